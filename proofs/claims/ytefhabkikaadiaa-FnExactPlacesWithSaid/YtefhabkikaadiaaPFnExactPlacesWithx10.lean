/- The functions that the law reaches, as plain functions, each with the proof that the program comes to it; no condition. Written by a program of this session (wip/mp.py) over the printing of the kit; what is marked HAND is told by hand. -/
import Derived.Test.YtefhabkikaadiaaPFnExactPlacesWithx0
import Derived.Test.YtefhabkikaadiaaPFnExactPlacesWithx1
import Derived.Test.YtefhabkikaadiaaPFnExactPlacesWithx4
import Derived.Test.YtefhabkikaadiaaPFnExactPlacesWithx8
import Derived.Test.YtefhabkikaadiaaPFnExactPlacesWithx9
namespace Go.Proofs.Ytefhabkikaadiaa.PFnExactPlacesWith
open Go.RowKit Go.Proofs.YtefhabkikaadiaaW.PrintWords Go.Proofs.YtefhabkikaadiaaW.PrintLast Go.Proofs.YtefhabkikaadiaaW.PrintMore
attribute [local go_sem] max2_int min2_int max_two min_two max_three min_three max_four min_four   -- for this text's walks alone
set_option linter.unusedVariables false
set_option linter.unusedSimpArgs false

/-! ### laws_FnExactPlacesWith: function 3 -/
mutual
def laws_FnExactPlacesWith.j0:Nat→Int→List Int→Int→List Int→Int→Bool→Int→List Int→Int→List Int→Option (Bool)
  |0,_,_,_,_,_,_,_,_,_,_=>none
  |k+1,x1,x6,x7,x9,x10,x44,x251000,x251001,x265000,x265001=>if x44=true then (some false) else ((laws_toCyclo.f k x251000 x251001).bind fun bt270=>((laws_eqCyclo.f k x265000 x265001 bt270.1 bt270.2).bind fun t274=>(if t274=true then ((laws_markCyclo.f k x265000 x265001 1).bind fun bt275=>(if bt275.1<0 then (laws_FnExactPlacesWith.j1 k x1 x6 x7 x9 true x251000 x251001) else ((laws_eqInt64S.f k x9 x6).bind fun t277=>(if t277=true then (laws_FnExactPlacesWith.j1 k x1 x6 x7 x9 (x10 !=x7) x251000 x251001) else (laws_FnExactPlacesWith.j1 k x1 x6 x7 x9 true x251000 x251001))))) else (some false))))
def laws_FnExactPlacesWith.j1:Nat→Int→List Int→Int→List Int→Bool→Int→List Int→Option (Bool)
  |0,_,_,_,_,_,_,_=>none
  |k+1,x1,x6,x7,x9,x65,x251000,x251001=>if x65=true then (some false) else ((laws_markInt64S.f k x9 1).bind fun bt278=>((laws_heldInt64S.f k bt278.2 1).bind fun t280=>(if t280<0 then (some false) else (if t280=bt278.1 then ((laws_toCyclo.f k x251000 x251001).bind fun bt281=>((impl_PlacesWith.f k bt281.1 bt281.2 x1).bind fun bt285=>((laws_eqInt64S.f k bt285.1 x6).bind fun t289=>(if t289=true then (laws_FnExactPlacesWith.j2 k bt278.2 bt278.1 (bt285.2 !=x7)) else (laws_FnExactPlacesWith.j2 k bt278.2 bt278.1 true))))) else (some false)))))
def laws_FnExactPlacesWith.j2:Nat→List Int→Int→Bool→Option (Bool)
  |0,_,_,_=>none
  |k+1,x9,x12,x92=>if x92=true then (some false) else ((laws_heldInt64S.f k x9 1).bind fun t290=>(if t290<0 then (some false) else (if t290=x12 then (some true) else (some false))))
end
def laws_FnExactPlacesWith.f (k:Nat) (a0_0:Int) (l0_1:List Int) (a1:Int):Option (Bool):=(laws_szCyclo.f a0_0 l0_1 1048576).bind fun t251=>(if t251<0 then (some true) else ((laws_toCyclo.f k a0_0 l0_1).bind fun bt252=>((spec_PlacesWith.f k bt252.1 bt252.2 a1).bind fun bt256=>((laws_toCyclo.f k a0_0 l0_1).bind fun bt260=>((impl_PlacesWith.f k bt260.1 bt260.2 a1).bind fun bt265=>((laws_eqInt64S.f k bt265.1 bt256.1).bind fun t269=>(if t269=true then (laws_FnExactPlacesWith.j0 k a1 bt256.1 bt256.2 bt265.1 bt265.2 (bt265.2 !=bt256.2) a0_0 l0_1 bt260.1 bt260.2) else (laws_FnExactPlacesWith.j0 k a1 bt256.1 bt256.2 bt265.1 bt265.2 true a0_0 l0_1 bt260.1 bt260.2))))))))
theorem laws_FnExactPlacesWith.mono_l:∀k,(∀y0 y1 y2 y3 y4 y5 y6 y7 y8 y9,LeO (laws_FnExactPlacesWith.j0 k y0 y1 y2 y3 y4 y5 y6 y7 y8 y9) (laws_FnExactPlacesWith.j0 (k+1) y0 y1 y2 y3 y4 y5 y6 y7 y8 y9))∧(∀y0 y1 y2 y3 y4 y5 y6,LeO (laws_FnExactPlacesWith.j1 k y0 y1 y2 y3 y4 y5 y6) (laws_FnExactPlacesWith.j1 (k+1) y0 y1 y2 y3 y4 y5 y6))∧(∀y0 y1 y2,LeO (laws_FnExactPlacesWith.j2 k y0 y1 y2) (laws_FnExactPlacesWith.j2 (k+1) y0 y1 y2))
  |0=>⟨fun _ _ _ _ _ _ _ _ _ _ r h=>by simp [laws_FnExactPlacesWith.j0] at h,fun _ _ _ _ _ _ _ r h=>by simp [laws_FnExactPlacesWith.j1] at h,fun _ _ _ r h=>by simp [laws_FnExactPlacesWith.j2] at h⟩
  |k+1=>by
    obtain⟨ih0,ih1,ih2⟩:=laws_FnExactPlacesWith.mono_l k;refine⟨?_,?_,?_⟩
    · intro y0 y1 y2 y3 y4 y5 y6 y7 y8 y9
      unfold laws_FnExactPlacesWith.j0;repeat' first
      |(with_reducible exact ih0 _ _ _ _ _ _ _ _ _ _)
      |(with_reducible exact ih1 _ _ _ _ _ _ _)
      |(with_reducible exact ih2 _ _ _)
      |(with_reducible exact impl_PlacesWith.mono _ _ _ _)
      |(with_reducible exact laws_eqCyclo.mono _ _ _ _ _)
      |(with_reducible exact laws_eqInt64S.mono _ _ _)
      |(with_reducible exact laws_heldInt64S.mono _ _ _)
      |(with_reducible exact laws_markCyclo.mono _ _ _ _)
      |(with_reducible exact laws_markInt64S.mono _ _ _)
      |(with_reducible exact laws_toCyclo.mono _ _ _)
      |(with_reducible exact spec_PlacesWith.mono _ _ _ _)
      |(with_reducible exact LeO.refl _)
      |(with_reducible exact LeO.none _)
      |(with_reducible refine LeO.ite ?_ ?_)
      |(with_reducible refine LeO.bind ?_ (fun _=>?_))
      |exact ih0 _ _ _ _ _ _ _ _ _ _
      |exact ih1 _ _ _ _ _ _ _
      |exact ih2 _ _ _
      |exact impl_PlacesWith.mono _ _ _ _
      |exact laws_eqCyclo.mono _ _ _ _ _
      |exact laws_eqInt64S.mono _ _ _
      |exact laws_heldInt64S.mono _ _ _
      |exact laws_markCyclo.mono _ _ _ _
      |exact laws_markInt64S.mono _ _ _
      |exact laws_toCyclo.mono _ _ _
      |exact spec_PlacesWith.mono _ _ _ _
      |exact LeO.none _
      |refine LeO.ite ?_ ?_
      |refine LeO.bind ?_ (fun _=>?_)
    · intro y0 y1 y2 y3 y4 y5 y6
      unfold laws_FnExactPlacesWith.j1;repeat' first
      |(with_reducible exact ih0 _ _ _ _ _ _ _ _ _ _)
      |(with_reducible exact ih1 _ _ _ _ _ _ _)
      |(with_reducible exact ih2 _ _ _)
      |(with_reducible exact impl_PlacesWith.mono _ _ _ _)
      |(with_reducible exact laws_eqCyclo.mono _ _ _ _ _)
      |(with_reducible exact laws_eqInt64S.mono _ _ _)
      |(with_reducible exact laws_heldInt64S.mono _ _ _)
      |(with_reducible exact laws_markCyclo.mono _ _ _ _)
      |(with_reducible exact laws_markInt64S.mono _ _ _)
      |(with_reducible exact laws_toCyclo.mono _ _ _)
      |(with_reducible exact spec_PlacesWith.mono _ _ _ _)
      |(with_reducible exact LeO.refl _)
      |(with_reducible exact LeO.none _)
      |(with_reducible refine LeO.ite ?_ ?_)
      |(with_reducible refine LeO.bind ?_ (fun _=>?_))
      |exact ih0 _ _ _ _ _ _ _ _ _ _
      |exact ih1 _ _ _ _ _ _ _
      |exact ih2 _ _ _
      |exact impl_PlacesWith.mono _ _ _ _
      |exact laws_eqCyclo.mono _ _ _ _ _
      |exact laws_eqInt64S.mono _ _ _
      |exact laws_heldInt64S.mono _ _ _
      |exact laws_markCyclo.mono _ _ _ _
      |exact laws_markInt64S.mono _ _ _
      |exact laws_toCyclo.mono _ _ _
      |exact spec_PlacesWith.mono _ _ _ _
      |exact LeO.none _
      |refine LeO.ite ?_ ?_
      |refine LeO.bind ?_ (fun _=>?_)
    · intro y0 y1 y2
      unfold laws_FnExactPlacesWith.j2;repeat' first
      |(with_reducible exact ih0 _ _ _ _ _ _ _ _ _ _)
      |(with_reducible exact ih1 _ _ _ _ _ _ _)
      |(with_reducible exact ih2 _ _ _)
      |(with_reducible exact impl_PlacesWith.mono _ _ _ _)
      |(with_reducible exact laws_eqCyclo.mono _ _ _ _ _)
      |(with_reducible exact laws_eqInt64S.mono _ _ _)
      |(with_reducible exact laws_heldInt64S.mono _ _ _)
      |(with_reducible exact laws_markCyclo.mono _ _ _ _)
      |(with_reducible exact laws_markInt64S.mono _ _ _)
      |(with_reducible exact laws_toCyclo.mono _ _ _)
      |(with_reducible exact spec_PlacesWith.mono _ _ _ _)
      |(with_reducible exact LeO.refl _)
      |(with_reducible exact LeO.none _)
      |(with_reducible refine LeO.ite ?_ ?_)
      |(with_reducible refine LeO.bind ?_ (fun _=>?_))
      |exact ih0 _ _ _ _ _ _ _ _ _ _
      |exact ih1 _ _ _ _ _ _ _
      |exact ih2 _ _ _
      |exact impl_PlacesWith.mono _ _ _ _
      |exact laws_eqCyclo.mono _ _ _ _ _
      |exact laws_eqInt64S.mono _ _ _
      |exact laws_heldInt64S.mono _ _ _
      |exact laws_markCyclo.mono _ _ _ _
      |exact laws_markInt64S.mono _ _ _
      |exact laws_toCyclo.mono _ _ _
      |exact spec_PlacesWith.mono _ _ _ _
      |exact LeO.none _
      |refine LeO.ite ?_ ?_
      |refine LeO.bind ?_ (fun _=>?_)
theorem laws_FnExactPlacesWith.mono:∀a0 a1 a2 k,LeO (laws_FnExactPlacesWith.f k a0 a1 a2) (laws_FnExactPlacesWith.f (k+1) a0 a1 a2):=by
  intro a0 a1 a2 k;obtain⟨ih0,ih1,ih2⟩:=laws_FnExactPlacesWith.mono_l k;unfold laws_FnExactPlacesWith.f;repeat' first
      |(with_reducible exact ih0 _ _ _ _ _ _ _ _ _ _)
      |(with_reducible exact ih1 _ _ _ _ _ _ _)
      |(with_reducible exact ih2 _ _ _)
      |(with_reducible exact impl_PlacesWith.mono _ _ _ _)
      |(with_reducible exact laws_eqCyclo.mono _ _ _ _ _)
      |(with_reducible exact laws_eqInt64S.mono _ _ _)
      |(with_reducible exact laws_heldInt64S.mono _ _ _)
      |(with_reducible exact laws_markCyclo.mono _ _ _ _)
      |(with_reducible exact laws_markInt64S.mono _ _ _)
      |(with_reducible exact laws_toCyclo.mono _ _ _)
      |(with_reducible exact spec_PlacesWith.mono _ _ _ _)
      |(with_reducible exact LeO.refl _)
      |(with_reducible exact LeO.none _)
      |(with_reducible refine LeO.ite ?_ ?_)
      |(with_reducible refine LeO.bind ?_ (fun _=>?_))
      |exact ih0 _ _ _ _ _ _ _ _ _ _
      |exact ih1 _ _ _ _ _ _ _
      |exact ih2 _ _ _
      |exact impl_PlacesWith.mono _ _ _ _
      |exact laws_eqCyclo.mono _ _ _ _ _
      |exact laws_eqInt64S.mono _ _ _
      |exact laws_heldInt64S.mono _ _ _
      |exact laws_markCyclo.mono _ _ _ _
      |exact laws_markInt64S.mono _ _ _
      |exact laws_toCyclo.mono _ _ _
      |exact spec_PlacesWith.mono _ _ _ _
      |exact LeO.none _
      |refine LeO.ite ?_ ?_
      |refine LeO.bind ?_ (fun _=>?_)
-- TRUE ALONE
theorem laws_FnExactPlacesWith.j0_no (k:Nat) (y0:Int) (y1:List Int) (y2:Int) (y3:List Int) (y4:Int) (y6:Int) (y7:List Int) (y8:Int) (y9:List Int) (h:laws_FnExactPlacesWith.j0 k y0 y1 y2 y3 y4 true y6 y7 y8 y9=some true):False:=by
  cases k with
  |zero=>first|(simp only [laws_FnExactPlacesWith.j0] at h;done)|(simp only [laws_FnExactPlacesWith.j0] at h;cases h)
  |succ k=>rw [laws_FnExactPlacesWith.j0,if_pos rfl] at h;cases h
theorem laws_FnExactPlacesWith.j1_no (k:Nat) (y0:Int) (y1:List Int) (y2:Int) (y3:List Int) (y5:Int) (y6:List Int) (h:laws_FnExactPlacesWith.j1 k y0 y1 y2 y3 true y5 y6=some true):False:=by
  cases k with
  |zero=>first|(simp only [laws_FnExactPlacesWith.j1] at h;done)|(simp only [laws_FnExactPlacesWith.j1] at h;cases h)
  |succ k=>rw [laws_FnExactPlacesWith.j1,if_pos rfl] at h;cases h
theorem laws_FnExactPlacesWith.j2_no (k:Nat) (y0:List Int) (y1:Int) (h:laws_FnExactPlacesWith.j2 k y0 y1 true=some true):False:=by
  cases k with
  |zero=>first|(simp only [laws_FnExactPlacesWith.j2] at h;done)|(simp only [laws_FnExactPlacesWith.j2] at h;cases h)
  |succ k=>rw [laws_FnExactPlacesWith.j2,if_pos rfl] at h;cases h
set_option maxHeartbeats 8000000 in
set_option maxRecDepth 100000 in
theorem laws_FnExactPlacesWith.calls (k:Nat) (a0_0:Int) (A0_1:Option Addr) (c0_1:Nat) (l0_1:List Int) (a1:Int) (w:World) (hr0_1:Kd.C (Kd.int .i64) w A0_1 l0_1.length l0_1) (hc0_1:l0_1.length≤c0_1) (h:laws_FnExactPlacesWith.f k a0_0 l0_1 a1=some true):
    Calls Try.prog 3 #[.agg #[.int .i64 a0_0,.slice A0_1 l0_1.length c0_1],.int .i64 a1] w fun e w'=>e=.returned (.bool true)∧Below w.heap.size w w':=by
  have hu24:=Try.underlying24;have hu28:=Try.underlying28;have HR0_1:=qAm hr0_1;have HC0_1:=qAm hc0_1;clear hr0_1 hc0_1;have HB:=qAm (Below.refl w.heap.size w);have H:((laws_szCyclo.f a0_0 l0_1 1048576).bind fun t251=>(if t251<0 then (some true) else ((laws_toCyclo.f k a0_0 l0_1).bind fun bt252=>((spec_PlacesWith.f k bt252.1 bt252.2 a1).bind fun bt256=>((laws_toCyclo.f k a0_0 l0_1).bind fun bt260=>((impl_PlacesWith.f k bt260.1 bt260.2 a1).bind fun bt265=>((laws_eqInt64S.f k bt265.1 bt256.1).bind fun t269=>(if t269=true then (laws_FnExactPlacesWith.j0 k a1 bt256.1 bt256.2 bt265.1 bt265.2 (bt265.2 !=bt256.2) a0_0 l0_1 bt260.1 bt260.2) else (laws_FnExactPlacesWith.j0 k a1 bt256.1 bt256.2 bt265.1 bt265.2 true a0_0 l0_1 bt260.1 bt260.2)))))))))=some true:=h;clear h;replace H:=qOb H;obtain⟨t251,A30,H⟩:=H;replace H:(if t251<0 then (some true) else ((laws_toCyclo.f k a0_0 l0_1).bind fun bt252=>((spec_PlacesWith.f k bt252.1 bt252.2 a1).bind fun bt256=>((laws_toCyclo.f k a0_0 l0_1).bind fun bt260=>((impl_PlacesWith.f k bt260.1 bt260.2 a1).bind fun bt265=>((laws_eqInt64S.f k bt265.1 bt256.1).bind fun t269=>(if t269=true then (laws_FnExactPlacesWith.j0 k a1 bt256.1 bt256.2 bt265.1 bt265.2 (bt265.2 !=bt256.2) a0_0 l0_1 bt260.1 bt260.2) else (laws_FnExactPlacesWith.j0 k a1 bt256.1 bt256.2 bt265.1 bt265.2 true a0_0 l0_1 bt260.1 bt260.2))))))))=some true:=H;have A3:=qAm A30;clear A30
  by_cases c4:t251<0
  · rw [if_pos c4] at H
    have c4b0:decide (t251<0)=true:=decide_eq_true c4;clear c4 H;go_enter Try.func3,Try.ntmps3;go_wp2_with (first|((with_reducible refine gate_dst (N:=2) rfl ?_);refine box_event ?hg (N:=2) ?hd (cs:=#[.int .i64 a0_0,.slice A0_1 l0_1.length c0_1]) (t:=24) ?hr ?_;(case hd=>rfl);(case hg=>rfl);(case hr=>first|(go_simp;done)|(go_simp;rfl));intro gb250 hg w5 hbox hb;have n0_:=qAm (below_step qB15 hb);have n1_:=qAm (hbox);have n2_:=qAm ((by rw [hg];exact(below_size qB15):w.heap.size≤gb250));have n3_:=qAm ((by rw [hg];exact(below_size qB15):w.heap.size≤gb250));clear HB;have HB:=n0_;have BK250:=n1_;have GW250:=n2_;have GE250:=n3_;clear n0_ n1_ n2_ n3_;clear hb hbox hg;have hcz6_0:w5.cell? ⟨gb250,0,none⟩=some (.int .i64 a0_0):=(blk_cell BK250.1 0).trans rfl;have hcz6_1:w5.cell? ⟨gb250,1,none⟩=some (.slice A0_1 l0_1.length c0_1):=(blk_cell BK250.1 1).trans rfl;have hfz6_0:=blk_frozen BK250.1 0;have hfz6_1:=blk_frozen BK250.1 1)|((with_reducible refine gate_callee (f:=9) rfl ?_);refine goesL_ (some 18) rfl rfl Try.func9 (by kernel_rfl) rfl #[.agg #[.int .i64 a0_0,.slice A0_1 l0_1.length c0_1],.int .i64 1048576] rfl qB14 ?_;(with_reducible refine(laws_szCyclo.calls a0_0 _ _ l0_1 1048576 t251 _ ?side1 ?side2 A3.1).mono ?_);(case side1=>repeat(first|exact(Kd.C_below HR0_1.1 HB.1)|(with_reducible refine Kd.C_alloc ?_ _)|(with_reducible refine Kd.C_drewN ?_ _)|(with_reducible refine Kd.C_drew ?_)));(case side2=>exact HC0_1.1);rintro e w7 ⟨rfl,hb⟩;refine⟨_,rfl,?_⟩;have n0_:=qAm (blk_below (g:=gb250) (o:=.cells #[.int .i64 a0_0,.slice A0_1 l0_1.length c0_1] 24 (0,0)) qB23 hb);have n1_:=qAm (below_step qB12 hb);clear BK250;clear HB;have BK250:=n0_;have HB:=n1_;clear n0_ n1_;(try clear hb);(try clear hb2);(try clear hk);(try clear hi)));go_ret;exact⟨by first|rfl|(simp [errW_none,errW_some] <;> rfl)|(simp [*,errW_none,errW_some] <;> rfl),by repeat(first|(with_reducible first|exact HB.1|apply below_alloc|apply pw_below_drewN|apply below_drew1|refine below_set ?_ GE250.1)|exact HB.1)⟩
  · rw [if_neg c4] at H
    have c4b0:decide (t251<0)=false:=decide_eq_false c4;clear c4;replace H:=qOb H;obtain⟨⟨t252,t253⟩,A80,H⟩:=H;replace H:((spec_PlacesWith.f k t252 t253 a1).bind fun bt256=>((laws_toCyclo.f k a0_0 l0_1).bind fun bt260=>((impl_PlacesWith.f k bt260.1 bt260.2 a1).bind fun bt265=>((laws_eqInt64S.f k bt265.1 bt256.1).bind fun t269=>(if t269=true then (laws_FnExactPlacesWith.j0 k a1 bt256.1 bt256.2 bt265.1 bt265.2 (bt265.2 !=bt256.2) a0_0 l0_1 bt260.1 bt260.2) else (laws_FnExactPlacesWith.j0 k a1 bt256.1 bt256.2 bt265.1 bt265.2 true a0_0 l0_1 bt260.1 bt260.2))))))=some true:=H;have A8:=qAm A80;clear A80;replace H:=qOb H;obtain⟨⟨t256,t259⟩,A90,H⟩:=H;replace H:((laws_toCyclo.f k a0_0 l0_1).bind fun bt260=>((impl_PlacesWith.f k bt260.1 bt260.2 a1).bind fun bt265=>((laws_eqInt64S.f k bt265.1 t256).bind fun t269=>(if t269=true then (laws_FnExactPlacesWith.j0 k a1 t256 t259 bt265.1 bt265.2 (bt265.2 !=t259) a0_0 l0_1 bt260.1 bt260.2) else (laws_FnExactPlacesWith.j0 k a1 t256 t259 bt265.1 bt265.2 true a0_0 l0_1 bt260.1 bt260.2)))))=some true:=H;have A9:=qAm A90;clear A90;replace H:=qOb H;obtain⟨⟨t260,t261⟩,A100,H⟩:=H;replace H:((impl_PlacesWith.f k t260 t261 a1).bind fun bt265=>((laws_eqInt64S.f k bt265.1 t256).bind fun t269=>(if t269=true then (laws_FnExactPlacesWith.j0 k a1 t256 t259 bt265.1 bt265.2 (bt265.2 !=t259) a0_0 l0_1 t260 t261) else (laws_FnExactPlacesWith.j0 k a1 t256 t259 bt265.1 bt265.2 true a0_0 l0_1 t260 t261))))=some true:=H;have A10:=qAm A100;clear A100;replace H:=qOb H;obtain⟨⟨t265,t268⟩,A110,H⟩:=H;replace H:((laws_eqInt64S.f k t265 t256).bind fun t269=>(if t269=true then (laws_FnExactPlacesWith.j0 k a1 t256 t259 t265 t268 (t268 !=t259) a0_0 l0_1 t260 t261) else (laws_FnExactPlacesWith.j0 k a1 t256 t259 t265 t268 true a0_0 l0_1 t260 t261)))=some true:=H;have A11:=qAm A110;clear A110;have HC12:=qAm H;clear H;go_enter Try.func3,Try.ntmps3;go_upto_region 8 with (first|((with_reducible refine gate_dst (N:=2) rfl ?_);refine box_event ?hg (N:=2) ?hd (cs:=#[.int .i64 a0_0,.slice A0_1 l0_1.length c0_1]) (t:=24) ?hr ?_;(case hd=>rfl);(case hg=>rfl);(case hr=>first|(go_simp;done)|(go_simp;rfl));intro gb250 hg w13 hbox hb;have n0_:=qAm (below_step qB15 hb);have n1_:=qAm (hbox);have n2_:=qAm ((by rw [hg];exact(below_size qB15):w.heap.size≤gb250));have n3_:=qAm ((by rw [hg];exact(below_size qB15):w.heap.size≤gb250));clear HB;have HB:=n0_;have BK250:=n1_;have GW250:=n2_;have GE250:=n3_;clear n0_ n1_ n2_ n3_;clear hb hbox hg;have hcz14_0:w13.cell? ⟨gb250,0,none⟩=some (.int .i64 a0_0):=(blk_cell BK250.1 0).trans rfl;have hcz14_1:w13.cell? ⟨gb250,1,none⟩=some (.slice A0_1 l0_1.length c0_1):=(blk_cell BK250.1 1).trans rfl;have hfz14_0:=blk_frozen BK250.1 0;have hfz14_1:=blk_frozen BK250.1 1)|((with_reducible refine gate_callee (f:=9) rfl ?_);refine goesL_ (some 18) rfl rfl Try.func9 (by kernel_rfl) rfl #[.agg #[.int .i64 a0_0,.slice A0_1 l0_1.length c0_1],.int .i64 1048576] rfl qB14 ?_;(with_reducible refine(laws_szCyclo.calls a0_0 _ _ l0_1 1048576 t251 _ ?side1 ?side2 A3.1).mono ?_);(case side1=>repeat(first|exact(Kd.C_below HR0_1.1 HB.1)|(with_reducible refine Kd.C_alloc ?_ _)|(with_reducible refine Kd.C_drewN ?_ _)|(with_reducible refine Kd.C_drew ?_)));(case side2=>exact HC0_1.1);rintro e w15 ⟨rfl,hb⟩;refine⟨_,rfl,?_⟩;have n0_:=qAm (blk_below (g:=gb250) (o:=.cells #[.int .i64 a0_0,.slice A0_1 l0_1.length c0_1] 24 (0,0)) qB23 hb);have n1_:=qAm (below_step qB12 hb);clear BK250;clear HB;have BK250:=n0_;have HB:=n1_;clear n0_ n1_;(try clear hb);(try clear hb2);(try clear hk);(try clear hi);have hcz16_0:w15.cell? ⟨gb250,0,none⟩=some (.int .i64 a0_0):=(blk_cell BK250.1 0).trans rfl;have hcz16_1:w15.cell? ⟨gb250,1,none⟩=some (.slice A0_1 l0_1.length c0_1):=(blk_cell BK250.1 1).trans rfl;have hfz16_0:=blk_frozen BK250.1 0;have hfz16_1:=blk_frozen BK250.1 1)|((with_reducible refine gate_callee (f:=11) rfl ?_);refine goesL_ (some 23) rfl rfl Try.func11 (by kernel_rfl) rfl #[.agg #[.int .i64 a0_0,.slice A0_1 l0_1.length c0_1]] rfl qB14 ?_;(with_reducible refine(laws_toCyclo.calls k a0_0 _ _ l0_1 t252 t253 _ ?side1 ?side2 A8.1).mono ?_);(case side1=>repeat(first|exact(Kd.C_below HR0_1.1 HB.1)|(with_reducible refine Kd.C_alloc ?_ _)|(with_reducible refine Kd.C_drewN ?_ _)|(with_reducible refine Kd.C_drew ?_)));(case side2=>exact HC0_1.1);rintro e w17 ⟨v254,rfl,ho0,hb⟩;refine⟨_,rfl,?_⟩;have n0_:=qAm (Kd.R_lower ho0 (below_size qB12));have n1_:=qAm (blk_below (g:=gb250) (o:=.cells #[.int .i64 a0_0,.slice A0_1 l0_1.length c0_1] 24 (0,0)) qB23 hb);have n2_:=qAm (below_step qB12 hb);clear BK250;clear HB;have HO255:=n0_;have BK250:=n1_;have HB:=n2_;clear n0_ n1_ n2_;(try clear hb);(try clear hb2);(try clear hk);(try clear hi);(try clear ho0);obtain⟨Ao18,co18,eo18⟩:=Kd.R_slice HO255.1;subst eo18)|((with_reducible refine gate_callee (f:=10) rfl ?_);refine goesL_ (some 25) rfl rfl Try.func10 (by kernel_rfl) rfl #[.agg #[.int .i64 t252,.slice Ao18 t253.length co18],.int .i64 a1] rfl qB14 ?_;(with_reducible refine(spec_PlacesWith.calls k t252 _ _ t253 a1 t256 t259 _ ?side1 ?side2 A9.1).mono ?_);(case side1=>repeat(first|exact(Kd.R_reads' HO255.1).2.2|(with_reducible refine Kd.C_alloc ?_ _)|(with_reducible refine Kd.C_drewN ?_ _)|(with_reducible refine Kd.C_drew ?_)));(case side2=>exact(Kd.R_reads' HO255.1).2.1);rintro e w19 ⟨v257,rfl,ho0,hb⟩;refine⟨_,rfl,?_⟩;have n0_:=qAm (Kd.R_elder' qB33 (Kd.R_base ho0) hb);have n1_:=qAm (Kd.R_lower (Kd.R_new' ho0 (Kd.R_lt qB33)) (below_size qB12));have n2_:=qAm (blk_below (g:=gb250) (o:=.cells #[.int .i64 a0_0,.slice A0_1 l0_1.length c0_1] 24 (0,0)) qB23 hb);have n3_:=qAm (below_step qB12 hb);clear HO255;clear BK250;clear HB;have HO255:=n0_;have HO258:=n1_;have BK250:=n2_;have HB:=n3_;clear n0_ n1_ n2_ n3_;(try clear hb);(try clear hb2);(try clear hk);(try clear hi);(try clear ho0);have hcz20_0:w19.cell? ⟨gb250,0,none⟩=some (.int .i64 a0_0):=(blk_cell BK250.1 0).trans rfl;have hcz20_1:w19.cell? ⟨gb250,1,none⟩=some (.slice A0_1 l0_1.length c0_1):=(blk_cell BK250.1 1).trans rfl;have hfz20_0:=blk_frozen BK250.1 0;have hfz20_1:=blk_frozen BK250.1 1)|((with_reducible refine gate_callee (f:=11) rfl ?_);refine goesL_ (some 29) rfl rfl Try.func11 (by kernel_rfl) rfl #[.agg #[.int .i64 a0_0,.slice A0_1 l0_1.length c0_1]] rfl qB14 ?_;(with_reducible refine(laws_toCyclo.calls k a0_0 _ _ l0_1 t260 t261 _ ?side1 ?side2 A10.1).mono ?_);(case side1=>repeat(first|exact(Kd.C_below HR0_1.1 HB.1)|(with_reducible refine Kd.C_alloc ?_ _)|(with_reducible refine Kd.C_drewN ?_ _)|(with_reducible refine Kd.C_drew ?_)));(case side2=>exact HC0_1.1);rintro e w21 ⟨v262,rfl,ho0,hb⟩;refine⟨_,rfl,?_⟩;have n0_:=qAm (Kd.R_elder' qB33 (Kd.R_base ho0) hb);have n1_:=qAm (Kd.R_elder' qB34 (Kd.R_base ho0) hb);have n2_:=qAm (Kd.R_lower (Kd.R_new' (Kd.R_new' ho0 (Kd.R_lt qB33)) (Kd.R_lt qB34)) (below_size qB12));have n3_:=qAm (blk_below (g:=gb250) (o:=.cells #[.int .i64 a0_0,.slice A0_1 l0_1.length c0_1] 24 (0,0)) qB23 hb);have n4_:=qAm (below_step qB12 hb);clear HO255;clear HO258;clear BK250;clear HB;have HO255:=n0_;have HO258:=n1_;have HO263:=n2_;have BK250:=n3_;have HB:=n4_;clear n0_ n1_ n2_ n3_ n4_;(try clear hb);(try clear hb2);(try clear hk);(try clear hi);(try clear ho0))|((with_reducible refine gate_dst (N:=8) rfl ?_);refine box_event ?hg (N:=8) ?hd (cs:=#[.int .i64 0,.slice none 0 0]) (t:=28) ?hr ?_;(case hd=>rfl);(case hg=>rfl);(case hr=>first|(go_simp;done)|(go_simp;rfl));intro gb264 hg w22 hbox hb;have n0_:=qAm (Kd.R_below qB33 hb);have n1_:=qAm (Kd.R_below qB34 hb);have n2_:=qAm (Kd.R_below (by (with_reducible repeat(first|apply Kd.R_alloc|apply Kd.R_drewN|apply Kd.R_drew));exact HO263.1) hb);have n3_:=qAm (blk_below (g:=gb250) (o:=.cells #[.int .i64 a0_0,.slice A0_1 l0_1.length c0_1] 24 (0,0)) qB23 hb);have n4_:=qAm (below_step qB12 hb);have n5_:=qAm (hbox);have n6_:=qAm ((by rw [hg];exact(below_size qB12):w.heap.size≤gb264));have n7_:=qAm ((by rw [hg];exact(below_size qB12):w.heap.size≤gb264));have n8_:=qAm ((by rw [hg];exact Nat.ne_of_lt (blk_lt (g:=gb250) (o:=.cells #[.int .i64 a0_0,.slice A0_1 l0_1.length c0_1] 24 (0,0)) qB23):gb250≠gb264));have n9_:=qAm ((by rw [hg];exact Nat.ne_of_gt (blk_lt (g:=gb250) (o:=.cells #[.int .i64 a0_0,.slice A0_1 l0_1.length c0_1] 24 (0,0)) qB23):gb264≠gb250));clear HO255;clear HO258;clear HO263;clear BK250;clear HB;have HO255:=n0_;have HO258:=n1_;have HO263:=n2_;have BK250:=n3_;have HB:=n4_;have BK264:=n5_;have GW264:=n6_;have GE264:=n7_;have NB250_264:=n8_;have NB264_250:=n9_;clear n0_ n1_ n2_ n3_ n4_ n5_ n6_ n7_ n8_ n9_;clear hb hbox hg;have hnb23:=NB264_250.1;have hnc23:=NB250_264.1;have hcz24_0:w22.cell? ⟨gb264,0,none⟩=some (.int .i64 0):=(blk_cell BK264.1 0).trans rfl;have hcz24_1:w22.cell? ⟨gb264,1,none⟩=some (.slice none 0 0):=(blk_cell BK264.1 1).trans rfl;have hfz24_0:=blk_frozen BK264.1 0;have hfz24_1:=blk_frozen BK264.1 1;obtain⟨Ao25,co25,eo25⟩:=Kd.R_slice HO263.1;subst eo25)|((with_reducible refine gate_callee (f:=12) rfl ?_);refine goesL_ (some 33) rfl rfl Try.func12 (by kernel_rfl) rfl #[.agg #[.int .i64 t260,.slice Ao25 t261.length co25],.int .i64 a1] rfl qB14 ?_;(with_reducible refine(impl_PlacesWith.calls k t260 _ _ t261 a1 t265 t268 _ ?side1 ?side2 A11.1).mono ?_);(case side1=>refine(Kd.R_reads' (e:=2) (base:=w.heap.size) (ok:=fun k_=>((True∧some k_≠(.slice Ao18 t253.length co18:Value).ownBlock)∧some k_≠(v257:Value).ownBlock)) (n:=t261.length) (c:=co25) ?_).2.2;exact qB1);(case side2=>exact(Kd.R_reads' HO263.1).2.1);rintro e w26 ⟨v266,rfl,ho0,hb⟩;refine⟨_,rfl,?_⟩;have n0_:=qAm (Kd.R_elder' qB2 (Kd.R_base ho0) hb);have n1_:=qAm (Kd.R_elder' qB3 (Kd.R_base ho0) hb);have n2_:=qAm (Kd.R_elder' qB1 (Kd.R_base ho0) hb);have n3_:=qAm (Kd.R_lower (Kd.R_new' (Kd.R_new' (Kd.R_new' ho0 (Kd.R_lt qB2)) (Kd.R_lt qB3)) (Kd.R_lt qB1)) (below_size qB6));have n4_:=qAm (blk_below (g:=gb250) (o:=.cells #[.int .i64 a0_0,.slice A0_1 l0_1.length c0_1] 24 (0,0)) (by (with_reducible repeat(first|refine blk_drewN ?_ _|refine blk_drew ?_|refine blk_alloc ?_ _));refine blk_far ?_ NB250_264.1 _;(with_reducible repeat(first|refine blk_drewN ?_ _|refine blk_drew ?_|refine blk_alloc ?_ _));refine blk_far ?_ NB250_264.1 _;(with_reducible repeat(first|refine blk_drewN ?_ _|refine blk_drew ?_|refine blk_alloc ?_ _));exact BK250.1) hb);have n5_:=qAm (blk_below (g:=gb264) (o:=.cells #[.int .i64 t260,.slice Ao25 t261.length co25] 28 (0,0)) (by (with_reducible repeat(first|refine blk_drewN ?_ _|refine blk_drew ?_|refine blk_alloc ?_ _));refine blk_put (cs:=#[.int .i64 t260,.slice none 0 0]) ?_ 1 _ rfl;(with_reducible repeat(first|refine blk_drewN ?_ _|refine blk_drew ?_|refine blk_alloc ?_ _));refine blk_put (cs:=#[.int .i64 0,.slice none 0 0]) ?_ 0 _ rfl;(with_reducible repeat(first|refine blk_drewN ?_ _|refine blk_drew ?_|refine blk_alloc ?_ _));exact BK264.1) hb);have n6_:=qAm (below_step qB6 hb);clear HO255;clear HO258;clear HO263;clear BK250;clear BK264;clear HB;have HO255:=n0_;have HO258:=n1_;have HO263:=n2_;have HO267:=n3_;have BK250:=n4_;have BK264:=n5_;have HB:=n6_;clear n0_ n1_ n2_ n3_ n4_ n5_ n6_;(try clear hb);(try clear hb2);(try clear hk);(try clear hi);(try clear ho0)))
    (try simp only [Act.put,qSa,qSb,qSc])
    go_cut [44] (fun v44 wc=>∃(kq:Nat) (x44_11:Bool),v44=.bool x44_11∧Aside0 (laws_FnExactPlacesWith.j0 kq a1 t256 t259 t265 t268 x44_11 a0_0 l0_1 t260 t261=some true)∧Aside0 (kq≤k)∧Aside0 (Kd.R (Kd.int .i64) 2 wc w.heap.size (fun k_=>some k_≠(v266:Value).ownBlock∧some k_≠((.slice Ao25 t261.length co25):Value).ownBlock) v257 t256)∧Aside0 (Kd.R (Kd.int .i64) 2 wc w.heap.size (fun k_=>some k_≠(v257:Value).ownBlock∧some k_≠((.slice Ao25 t261.length co25):Value).ownBlock) v266 t265)∧Aside0 (Kd.R (Kd.int .i64) 2 wc w.heap.size (fun k_=>some k_≠(v257:Value).ownBlock∧some k_≠(v266:Value).ownBlock) (.slice Ao25 t261.length co25) t261)∧Aside0 (wc.heap[gb250]? =some (.cells #[.int .i64 a0_0,(.slice A0_1 l0_1.length c0_1)] 24 (0,0)))∧Aside0 (wc.heap[gb264]? =some (.cells #[.int .i64 t260,(.slice Ao25 t261.length co25)] 28 (0,0)))∧Aside0 (Below w.heap.size w wc))
    case first=>
      have H:=HC12.1;clear HC12;replace H:=qOb H;obtain⟨t269,A270,H⟩:=H;replace H:(if t269=true then (laws_FnExactPlacesWith.j0 k a1 t256 t259 t265 t268 (t268 !=t259) a0_0 l0_1 t260 t261) else (laws_FnExactPlacesWith.j0 k a1 t256 t259 t265 t268 true a0_0 l0_1 t260 t261))=some true:=H;have A27:=qAm A270;clear A270
      by_cases c28:t269=true
      · subst c28
        have H1:(laws_FnExactPlacesWith.j0 k a1 t256 t259 t265 t268 (t268 !=t259) a0_0 l0_1 t260 t261)=some true:=by rw [if_pos rfl] at H;exact H
        clear H;have H:=H1;clear H1;have H':=qAm H;clear H;obtain⟨Ao29,co29,eo29⟩:=Kd.R_slice HO267.1;subst eo29;obtain⟨Ao30,co30,eo30⟩:=Kd.R_slice HO258.1;subst eo30;go_wp2_with (first|((with_reducible refine gate_callee (f:=13) rfl ?_);refine goesL_ (some 38) rfl rfl Try.func13 (by kernel_rfl) rfl #[.slice Ao29 t265.length co29,.slice Ao30 t256.length co30] rfl qB14 ?_;(with_reducible refine(laws_eqInt64S.calls k _ _ t265 _ _ t256 true _ ?side1 ?side2 ?side3 ?side4 A27.1).mono ?_);(case side1=>repeat(first|exact(Kd.R_reads' HO267.1).2.2|(with_reducible refine Kd.C_alloc ?_ _)|(with_reducible refine Kd.C_drewN ?_ _)|(with_reducible refine Kd.C_drew ?_)));(case side2=>exact(Kd.R_reads' HO267.1).2.1);(case side3=>repeat(first|exact(Kd.R_reads' HO258.1).2.2|(with_reducible refine Kd.C_alloc ?_ _)|(with_reducible refine Kd.C_drewN ?_ _)|(with_reducible refine Kd.C_drew ?_)));(case side4=>exact(Kd.R_reads' HO258.1).2.1);rintro e w' ⟨rfl,⟨nd,rfl⟩⟩;refine⟨_,rfl,?_⟩));go_meet
        case rel=>exact⟨_,((t268 !=t259)),qB41,H',⟨by first|omega|exact Nat.le_refl _⟩,⟨by (with_reducible repeat(first|apply Kd.R_alloc|apply Kd.R_drewN|apply Kd.R_drew));exact Kd.R_mono HO258.1 (fun _ hk=>⟨hk.2,hk.1.2⟩)⟩,⟨by (with_reducible repeat(first|apply Kd.R_alloc|apply Kd.R_drewN|apply Kd.R_drew));exact Kd.R_mono HO267.1 (fun _ hk=>⟨hk.1.2,hk.2⟩)⟩,⟨by (with_reducible repeat(first|apply Kd.R_alloc|apply Kd.R_drewN|apply Kd.R_drew));exact Kd.R_mono HO263.1 (fun _ hk=>⟨hk.1.2,hk.2⟩)⟩,⟨by (with_reducible repeat(first|refine blk_drewN ?_ _|refine blk_drew ?_|refine blk_alloc ?_ _));exact BK250.1⟩,⟨by (with_reducible repeat(first|refine blk_drewN ?_ _|refine blk_drew ?_|refine blk_alloc ?_ _));exact BK264.1⟩,⟨by repeat(first|(with_reducible first|exact HB.1|apply below_alloc|apply pw_below_drewN|apply below_drew1|refine below_set ?_ GE250.1|refine below_set ?_ GE264.1)|exact HB.1)⟩⟩
      · replace c28:=Bool.eq_false_iff.mpr c28
        subst c28;have H1:(laws_FnExactPlacesWith.j0 k a1 t256 t259 t265 t268 true a0_0 l0_1 t260 t261)=some true:=by rw [if_neg (show ¬(false=true) by decide)] at H;exact H
        exact(laws_FnExactPlacesWith.j0_no _ _ _ _ _ _ _ _ _ _ H1).elim
    case rest=>
      clear HC12;try clear c1
      try clear c2
      try clear p2
      try clear c3
      try clear c4
      try clear c4b0
      try clear c9
      try clear c10
      try clear c11
      try clear c12
      try clear c13
      try clear c23
      try clear c28
      try clear hcz14_0
      try clear hcz14_1
      try clear hcz16_0
      try clear hcz16_1
      try clear hcz20_0
      try clear hcz20_1
      try clear hcz24_0
      try clear hcz24_1
      try clear hcz6_0
      try clear hcz6_1
      try clear hfz14_0
      try clear hfz14_1
      try clear hfz16_0
      try clear hfz16_1
      try clear hfz20_0
      try clear hfz20_1
      try clear hfz24_0
      try clear hfz24_1
      try clear hfz6_0
      try clear hfz6_1
      obtain⟨kq,x44_11,rfl,HA,HJ11,HO_6,HO_9,HO_265001,BK250,BK264,HB⟩:=hcut;cases kq with
      |zero=>exact absurd HA.1 (by simp [laws_FnExactPlacesWith.j0])
      |succ kj11=>
        have H:=HA.1;clear HA;simp only [laws_FnExactPlacesWith.j0] at H
        by_cases c33:x44_11=true
        · subst c33
          have H1:(some false)=some true:=by rw [if_pos rfl] at H;exact H
          cases H1
        · replace c33:=Bool.eq_false_iff.mpr c33
          subst c33;have H1:((laws_toCyclo.f kj11 a0_0 l0_1).bind fun bt270=>((laws_eqCyclo.f kj11 t260 t261 bt270.1 bt270.2).bind fun t274=>(if t274=true then ((laws_markCyclo.f kj11 t260 t261 1).bind fun bt275=>(if bt275.1<0 then (laws_FnExactPlacesWith.j1 kj11 a1 t256 t259 t265 true a0_0 l0_1) else ((laws_eqInt64S.f kj11 t265 t256).bind fun t277=>(if t277=true then (laws_FnExactPlacesWith.j1 kj11 a1 t256 t259 t265 (t268 !=t259) a0_0 l0_1) else (laws_FnExactPlacesWith.j1 kj11 a1 t256 t259 t265 true a0_0 l0_1))))) else (some false))))=some true:=by rw [if_neg (show ¬(false=true) by decide)] at H;exact H
          clear H;have H:=H1;clear H1;replace H:=qOb H;obtain⟨⟨t270,t271⟩,A340,H⟩:=H;replace H:((laws_eqCyclo.f kj11 t260 t261 t270 t271).bind fun t274=>(if t274=true then ((laws_markCyclo.f kj11 t260 t261 1).bind fun bt275=>(if bt275.1<0 then (laws_FnExactPlacesWith.j1 kj11 a1 t256 t259 t265 true a0_0 l0_1) else ((laws_eqInt64S.f kj11 t265 t256).bind fun t277=>(if t277=true then (laws_FnExactPlacesWith.j1 kj11 a1 t256 t259 t265 (t268 !=t259) a0_0 l0_1) else (laws_FnExactPlacesWith.j1 kj11 a1 t256 t259 t265 true a0_0 l0_1))))) else (some false)))=some true:=H;have A34:=qAm A340;clear A340;replace H:=qOb H;obtain⟨t274,A350,H⟩:=H;replace H:(if t274=true then ((laws_markCyclo.f kj11 t260 t261 1).bind fun bt275=>(if bt275.1<0 then (laws_FnExactPlacesWith.j1 kj11 a1 t256 t259 t265 true a0_0 l0_1) else ((laws_eqInt64S.f kj11 t265 t256).bind fun t277=>(if t277=true then (laws_FnExactPlacesWith.j1 kj11 a1 t256 t259 t265 (t268 !=t259) a0_0 l0_1) else (laws_FnExactPlacesWith.j1 kj11 a1 t256 t259 t265 true a0_0 l0_1))))) else (some false))=some true:=H;have A35:=qAm A350;clear A350
          by_cases c36:t274=true
          · subst c36
            have H1:((laws_markCyclo.f kj11 t260 t261 1).bind fun bt275=>(if bt275.1<0 then (laws_FnExactPlacesWith.j1 kj11 a1 t256 t259 t265 true a0_0 l0_1) else ((laws_eqInt64S.f kj11 t265 t256).bind fun t277=>(if t277=true then (laws_FnExactPlacesWith.j1 kj11 a1 t256 t259 t265 (t268 !=t259) a0_0 l0_1) else (laws_FnExactPlacesWith.j1 kj11 a1 t256 t259 t265 true a0_0 l0_1)))))=some true:=by rw [if_pos rfl] at H;exact H
            clear H;have H:=H1;clear H1;replace H:=qOb H;obtain⟨⟨t275,t276⟩,A370,H⟩:=H;replace H:(if t275<0 then (laws_FnExactPlacesWith.j1 kj11 a1 t256 t259 t265 true a0_0 l0_1) else ((laws_eqInt64S.f kj11 t265 t256).bind fun t277=>(if t277=true then (laws_FnExactPlacesWith.j1 kj11 a1 t256 t259 t265 (t268 !=t259) a0_0 l0_1) else (laws_FnExactPlacesWith.j1 kj11 a1 t256 t259 t265 true a0_0 l0_1))))=some true:=H;have A37:=qAm A370;clear A370;have HC38:=qAm H;clear H;try go_wp2
            have n0_:=qAm (Kd.R_drew HO_6.1);have n1_:=qAm (Kd.R_drew HO_9.1);have n2_:=qAm (Kd.R_drew HO_265001.1);have n3_:=qAm (blk_drew BK250.1);have n4_:=qAm (blk_drew BK264.1);have n5_:=qAm (below_drew1 HB.1);clear HO_6 HO_9 HO_265001 BK250 BK264 HB;have HO_6:=n0_;have HO_9:=n1_;have HO_265001:=n2_;have BK250:=n3_;have BK264:=n4_;have HB:=n5_;clear n0_ n1_ n2_ n3_ n4_ n5_;refine start_ (n:=5) (S:=fun w'=>w'.cell? ⟨gb264,0,none⟩=some (.int .i64 t260)∧w'.cell? ⟨gb264,1,none⟩=some (.slice Ao25 t261.length co25)∧w'.cell? ⟨gb250,0,none⟩=some (.int .i64 a0_0)∧w'.cell? ⟨gb250,1,none⟩=some (.slice A0_1 l0_1.length c0_1)) (ds:=[]) #[false,false,false,false,false] (by kernel_rfl) rfl rfl ⟨(blk_cell BK264.1 0).trans rfl,(blk_cell BK264.1 1).trans rfl,(blk_cell BK250.1 0).trans rfl,(blk_cell BK250.1 1).trans rfl⟩ (fun hHeld=>?_);generalize wc.drew=w39 at HO_6 HO_9 HO_265001 BK250 BK264 HB hHeld ⊢;refine take_ (i:=0) (N:=some 45) (v:=?_) (a':=?_) #[true,false,false,false,false] rfl rfl (by kernel_rfl) (fun _ _ _ h=>h) (Or.inl ⟨by rfl,?_⟩) hHeld ?_ ?_;rotate_left
            · rintro w' ⟨s0,s1,s2,s3⟩
              go_simp;with_reducible rfl
            rotate_left
            · simp only [Act.put,qSa,qSb,qSc,i64_w,i32_w]
              rfl
            refine take_ (i:=1) (N:=some 46) (v:=?_) (a':=?_) #[true,true,false,false,false] rfl rfl (by kernel_rfl) (fun _ _ _ h=>h) (Or.inl ⟨by rfl,?_⟩) hHeld ?_ ?_;rotate_left
            · rintro w' ⟨s0,s1,s2,s3⟩
              go_simp;with_reducible rfl
            rotate_left
            · simp only [Act.put,qSa,qSb,qSc,i64_w,i32_w]
              rfl
            refine one_ (i:=2) (N:=some 47) #[true,true,true,false,false] rfl rfl (by kernel_rfl) (by decide) (fun K hK=>?_);refine goes_ Try.func11 (by kernel_rfl) rfl #[.agg #[.int .i64 a0_0,.slice A0_1 l0_1.length c0_1]] (by rfl) rfl rfl qB14 ?_;with_reducible refine(laws_toCyclo.calls kj11 a0_0 _ _ l0_1 t270 t271 _ ?side1 ?side2 A34.1).mono ?_
            (case side1=>repeat(first|exact(Kd.C_below HR0_1.1 HB.1)|(with_reducible refine Kd.C_alloc ?_ _)|(with_reducible refine Kd.C_drewN ?_ _)|(with_reducible refine Kd.C_drew ?_)))
            (case side2=>exact HC0_1.1)
            rintro e w40 ⟨v272,rfl,ho0,hb⟩;refine⟨_,rfl,?_⟩;have n0_:=qAm (Kd.R_elder' qB37 (Kd.R_base ho0) hb);have n1_:=qAm (Kd.R_elder' qB39 (Kd.R_base ho0) hb);have n2_:=qAm (Kd.R_elder' qB25 (Kd.R_base ho0) hb);have n3_:=qAm (Kd.R_lower (Kd.R_new' (Kd.R_new' (Kd.R_new' ho0 (Kd.R_lt qB37)) (Kd.R_lt qB39)) (Kd.R_lt qB25)) (below_size qB6));have n4_:=qAm (blk_below (g:=gb250) (o:=.cells #[.int .i64 a0_0,.slice A0_1 l0_1.length c0_1] 24 (0,0)) qB23 hb);have n5_:=qAm (blk_below (g:=gb264) (o:=.cells #[.int .i64 t260,.slice Ao25 t261.length co25] 28 (0,0)) qB24 hb);have n6_:=qAm (below_step qB6 hb);clear HO_6 HO_9 HO_265001 BK250 BK264 HB;have HO_6:=n0_;have HO_9:=n1_;have HO_265001:=n2_;have HO273:=n3_;have BK250:=n4_;have BK264:=n5_;have HB:=n6_;clear n0_ n1_ n2_ n3_ n4_ n5_ n6_
            (try clear hb)
            (try clear hb2)
            (try clear hk)
            (try clear hi)
            (try clear ho0)
            obtain⟨Ao41,co41,eo41⟩:=Kd.R_slice HO273.1
            (first|subst eo41|(injection eo41 with f1_ f2_ f3_;have f4_:=f1_.symm;have f5_:=f3_.symm;clear f1_ f2_ f3_;subst f4_;subst f5_))
            refine hK.out _ _ ⟨(blk_cell BK264.1 0).trans rfl,(blk_cell BK264.1 1).trans rfl,(blk_cell BK250.1 0).trans rfl,(blk_cell BK250.1 1).trans rfl⟩ (fun hHeld=>?_);clear hK K;refine norm_ (a':=?_) ?_ ?_;rotate_left
            · show Act.put _ (some 47) _=_
              simp only [Act.put,qSa,qSb,qSc,i64_w,i32_w];rfl
            refine one_ (i:=3) (N:=some 48) #[true,true,true,true,false] rfl rfl (by kernel_rfl) (by decide) (fun K hK=>?_);refine goes_ Try.func14 (by kernel_rfl) rfl #[.agg #[.int .i64 t260,.slice Ao25 t261.length co25],.agg #[.int .i64 t270,.slice Ao41 t271.length co41]] (by rfl) rfl rfl qB14 ?_;with_reducible refine(laws_eqCyclo.calls kj11 t260 _ _ t261 t270 _ _ t271 true _ ?side1 ?side2 ?side3 ?side4 A35.1).mono ?_
            (case side1=>repeat(first|exact(Kd.R_reads' HO_265001.1).2.2|(with_reducible refine Kd.C_alloc ?_ _)|(with_reducible refine Kd.C_drewN ?_ _)|(with_reducible refine Kd.C_drew ?_)))
            (case side2=>exact(Kd.R_reads' HO_265001.1).2.1)
            (case side3=>repeat(first|exact(Kd.R_reads' HO273.1).2.2|(with_reducible refine Kd.C_alloc ?_ _)|(with_reducible refine Kd.C_drewN ?_ _)|(with_reducible refine Kd.C_drew ?_)))
            (case side4=>exact(Kd.R_reads' HO273.1).2.1)
            rintro e w42 ⟨rfl,hb⟩;refine⟨_,rfl,?_⟩;have n0_:=qAm (Kd.R_below qB37 hb);have n1_:=qAm (Kd.R_below qB39 hb);have n2_:=qAm (Kd.R_below qB25 hb);have n3_:=qAm (Kd.R_below (by (with_reducible repeat(first|apply Kd.R_alloc|apply Kd.R_drewN|apply Kd.R_drew));exact HO273.1) hb);have n4_:=qAm (blk_below (g:=gb250) (o:=.cells #[.int .i64 a0_0,.slice A0_1 l0_1.length c0_1] 24 (0,0)) qB23 hb);have n5_:=qAm (blk_below (g:=gb264) (o:=.cells #[.int .i64 t260,.slice Ao25 t261.length co25] 28 (0,0)) qB24 hb);have n6_:=qAm (below_step qB6 hb);clear HO_6 HO_9 HO_265001 HO273 BK250 BK264 HB;have HO_6:=n0_;have HO_9:=n1_;have HO_265001:=n2_;have HO273:=n3_;have BK250:=n4_;have BK264:=n5_;have HB:=n6_;clear n0_ n1_ n2_ n3_ n4_ n5_ n6_
            (try clear hb)
            (try clear hb2)
            (try clear hk)
            (try clear hi)
            refine hK.out _ _ ⟨(blk_cell BK264.1 0).trans rfl,(blk_cell BK264.1 1).trans rfl,(blk_cell BK250.1 0).trans rfl,(blk_cell BK250.1 1).trans rfl⟩ (fun hHeld=>?_);clear hK K;refine norm_ (a':=?_) ?_ ?_;rotate_left
            · show Act.put _ (some 48) _=_
              simp only [Act.put,qSa,qSb,qSc,i64_w,i32_w];rfl
            refine pure_ (i:=4) (N:=some 49) (v:=?_) (a':=?_) #[true,true,true,true,true] rfl rfl (by kernel_rfl) (fun _ _ _ h=>h) (Or.inl ⟨by rfl,?_⟩) ?_ ?_;rotate_left
            · intro w'
              go_simp;with_reducible rfl
            rotate_left
            · simp only [Act.put,qSa,qSb,qSc,i64_w,i32_w]
              rfl
            refine done_ (by kernel_rfl) ?_;have hnb43:=NB264_250.1;have hnc43:=NB250_264.1;have hcz44_0:w42.cell? ⟨gb264,0,none⟩=some (.int .i64 t260):=(blk_cell BK264.1 0).trans rfl;have hcz44_1:w42.cell? ⟨gb264,1,none⟩=some (.slice Ao25 t261.length co25):=(blk_cell BK264.1 1).trans rfl;have hfz44_0:=blk_frozen BK264.1 0;have hfz44_1:=blk_frozen BK264.1 1;go_upto_region 14 with (first|((with_reducible refine gate_callee (f:=15) rfl ?_);refine goesL_ (some 52) rfl rfl Try.func15 (by kernel_rfl) rfl #[.agg #[.int .i64 t260,.slice Ao25 t261.length co25],.int .i64 1] rfl qB14 ?_;(with_reducible refine(laws_markCyclo.calls kj11 t260 (fun k_=>some k_=(.slice Ao25 t261.length co25:Value).ownBlock) (.slice Ao25 t261.length co25) t261 1 t275 t276 w _ ?side1 ?side2 A37.1).mono ?_);(case side1=>repeat(first|(with_reducible first|exact HB.1|apply below_alloc|apply pw_below_drewN|apply below_drew1|refine below_set ?_ GE250.1|refine below_set ?_ GE264.1)|exact HB.1));(case side2=>exact Kd.R_tight rfl HO_265001.1);rintro e w45 ⟨rfl,hy0,hb,hkp⟩;refine⟨_,rfl,?_⟩;have n0_:=qAm (Kd.R_mono (ok':=fun k_=>some k_≠(v266:Value).ownBlock∧some k_≠(.slice Ao25 t261.length co25:Value).ownBlock∧some k_≠(.slice Ao41 t271.length co41:Value).ownBlock) (Kd.R_keptB (HO_6.1) hkp (fun k_ hk_ hs_=>(hk_.1.2) hs_)) (fun k_ hk_=>⟨hk_.1.1.1,hk_.1.1.2,hk_.1.2⟩));have n1_:=qAm (Kd.R_mono (ok':=fun k_=>some k_≠(v257:Value).ownBlock∧some k_≠(.slice Ao25 t261.length co25:Value).ownBlock∧some k_≠(.slice Ao41 t271.length co41:Value).ownBlock) (Kd.R_keptB (HO_9.1) hkp (fun k_ hk_ hs_=>(hk_.1.2) hs_)) (fun k_ hk_=>⟨hk_.1.1.1,hk_.1.1.2,hk_.1.2⟩));have n2_:=qAm (Kd.R_reok rfl hy0 (fun k_ e_=>HO_265001.1.1 k_ e_));have n3_:=qAm (blk_kept qB23 hkp (fun hs_=>(fun e_=>(Kd.R_ne HO_265001.1 BK250.1 (by decide)) e_) hs_));have n4_:=qAm (blk_kept qB24 hkp (fun hs_=>(fun e_=>(Kd.R_ne HO_265001.1 BK264.1 (by decide)) e_) hs_));have n5_:=qAm (Kd.R_mono (ok':=fun k_=>some k_≠(v257:Value).ownBlock∧some k_≠(v266:Value).ownBlock∧some k_≠(.slice Ao25 t261.length co25:Value).ownBlock) (Kd.R_keptB (HO273.1) hkp (fun k_ hk_ hs_=>(hk_.2) hs_)) (fun k_ hk_=>⟨hk_.1.1.1.2,hk_.1.1.2,hk_.1.2⟩));have n6_:=qAm (hb);clear HO_6;clear HO_9;clear HO_265001;clear BK250;clear BK264;clear HO273;clear HB;have HO_6:=n0_;have HO_9:=n1_;have HO_265001:=n2_;have BK250:=n3_;have BK264:=n4_;have HO273:=n5_;have HB:=n6_;clear n0_ n1_ n2_ n3_ n4_ n5_ n6_;(try clear hb);(try clear hkp);(try clear hy0)))
            (try simp only [Act.put,qSa,qSb,qSc])
            go_cut [65] (fun v65 wc=>∃(kq:Nat) (x65_37:Bool),v65=.bool x65_37∧Aside0 (laws_FnExactPlacesWith.j1 kq a1 t256 t259 t265 x65_37 a0_0 l0_1=some true)∧Aside0 (kq≤kj11)∧Aside0 (Kd.R (Kd.int .i64) 2 wc w.heap.size (fun k_=>some k_≠(v266:Value).ownBlock∧some k_≠((.slice Ao25 t261.length co25):Value).ownBlock) v257 t256)∧Aside0 (Kd.R (Kd.int .i64) 2 wc w.heap.size (fun k_=>some k_≠(v257:Value).ownBlock∧some k_≠((.slice Ao25 t261.length co25):Value).ownBlock) v266 t265)∧Aside0 (Kd.R (Kd.int .i64) 2 wc w.heap.size (fun k_=>some k_≠(v257:Value).ownBlock∧some k_≠(v266:Value).ownBlock) (.slice Ao25 t261.length co25) t276)∧Aside0 (wc.heap[gb250]? =some (.cells #[.int .i64 a0_0,(.slice A0_1 l0_1.length c0_1)] 24 (0,0)))∧Aside0 (wc.heap[gb264]? =some (.cells #[.int .i64 t260,(.slice Ao25 t261.length co25)] 28 (0,0)))∧Aside0 (Below w.heap.size w wc))
            case first=>
              have H:=HC38.1;clear HC38
              by_cases c46:t275<0
              · rw [if_pos c46] at H
                exact(laws_FnExactPlacesWith.j1_no _ _ _ _ _ _ _ H).elim
              · rw [if_neg c46] at H
                have c46b0:decide (t275<0)=false:=decide_eq_false c46;clear c46
                (first|rw [c46b0]|(simp only [i64_w,i32_w];rw [c46b0])|skip)
                replace H:=qOb H;obtain⟨t277,A470,H⟩:=H;replace H:(if t277=true then (laws_FnExactPlacesWith.j1 kj11 a1 t256 t259 t265 (t268 !=t259) a0_0 l0_1) else (laws_FnExactPlacesWith.j1 kj11 a1 t256 t259 t265 true a0_0 l0_1))=some true:=H;have A47:=qAm A470;clear A470
                by_cases c48:t277=true
                · subst c48
                  have H1:(laws_FnExactPlacesWith.j1 kj11 a1 t256 t259 t265 (t268 !=t259) a0_0 l0_1)=some true:=by rw [if_pos rfl] at H;exact H
                  clear H;have H:=H1;clear H1;have H':=qAm H;clear H;obtain⟨Ao49,co49,eo49⟩:=Kd.R_slice HO_9.1;subst eo49;obtain⟨Ao50,co50,eo50⟩:=Kd.R_slice HO_6.1;subst eo50;go_wp2_with (first|(go_at_call 13;(with_reducible refine(laws_eqInt64S.calls kj11 _ _ t265 _ _ t256 true _ ?side1 ?side2 ?side3 ?side4 A47.1).mono ?_);(case side1=>repeat(first|exact(Kd.R_reads' HO_9.1).2.2|(with_reducible refine Kd.C_alloc ?_ _)|(with_reducible refine Kd.C_drewN ?_ _)|(with_reducible refine Kd.C_drew ?_)));(case side2=>exact(Kd.R_reads' HO_9.1).2.1);(case side3=>repeat(first|exact(Kd.R_reads' HO_6.1).2.2|(with_reducible refine Kd.C_alloc ?_ _)|(with_reducible refine Kd.C_drewN ?_ _)|(with_reducible refine Kd.C_drew ?_)));(case side4=>exact(Kd.R_reads' HO_6.1).2.1);rintro e w' ⟨rfl,⟨nd,rfl⟩⟩));go_meet
                  case rel=>exact⟨_,((t268 !=t259)),qB41,H',⟨by have:=HJ11.1;first|omega|exact Nat.le_refl _⟩,⟨by (with_reducible repeat(first|apply Kd.R_alloc|apply Kd.R_drewN|apply Kd.R_drew));exact Kd.R_mono HO_6.1 (fun _ hk=>⟨hk.1,hk.2.1⟩)⟩,⟨by (with_reducible repeat(first|apply Kd.R_alloc|apply Kd.R_drewN|apply Kd.R_drew));exact Kd.R_mono HO_9.1 (fun _ hk=>⟨hk.1,hk.2.1⟩)⟩,⟨by (with_reducible repeat(first|apply Kd.R_alloc|apply Kd.R_drewN|apply Kd.R_drew));exact Kd.R_mono HO_265001.1 (fun _ hk=>⟨hk.1.1,hk.1.2⟩)⟩,⟨by (with_reducible repeat(first|refine blk_drewN ?_ _|refine blk_drew ?_|refine blk_alloc ?_ _));exact BK250.1⟩,⟨by (with_reducible repeat(first|refine blk_drewN ?_ _|refine blk_drew ?_|refine blk_alloc ?_ _));exact BK264.1⟩,⟨by repeat(first|(with_reducible first|exact HB.1|apply below_alloc|apply pw_below_drewN|apply below_drew1|refine below_set ?_ GE250.1|refine below_set ?_ GE264.1)|exact HB.1)⟩⟩
                · replace c48:=Bool.eq_false_iff.mpr c48
                  subst c48;have H1:(laws_FnExactPlacesWith.j1 kj11 a1 t256 t259 t265 true a0_0 l0_1)=some true:=by rw [if_neg (show ¬(false=true) by decide)] at H;exact H
                  exact(laws_FnExactPlacesWith.j1_no _ _ _ _ _ _ _ H1).elim
            case rest=>
              clear HC38;try clear c1
              try clear c2
              try clear p2
              try clear c3
              try clear c4
              try clear c4b0
              try clear c9
              try clear c10
              try clear c11
              try clear c12
              try clear c13
              try clear c14
              try clear c15
              try clear c23
              try clear c28
              try clear c33
              try clear c36
              try clear c43
              try clear c46
              try clear c46b0
              try clear c48
              try clear hcz14_0
              try clear hcz14_1
              try clear hcz16_0
              try clear hcz16_1
              try clear hcz20_0
              try clear hcz20_1
              try clear hcz24_0
              try clear hcz24_1
              try clear hcz44_0
              try clear hcz44_1
              try clear hcz6_0
              try clear hcz6_1
              try clear hfz14_0
              try clear hfz14_1
              try clear hfz16_0
              try clear hfz16_1
              try clear hfz20_0
              try clear hfz20_1
              try clear hfz24_0
              try clear hfz24_1
              try clear hfz44_0
              try clear hfz44_1
              try clear hfz6_0
              try clear hfz6_1
              try clear p2
              obtain⟨kq,x65_37,rfl,HA,HJ37,HO_6,HO_9,HO_265001,BK250,BK264,HB⟩:=hcut;have hl265001_37:=(Kd.R_reads' HO_265001.1).1;rw [hl265001_37] at HO_265001
              (try simp only [hl265001_37])
              (try simp only [hl265001_37] at BK250)
              (try simp only [hl265001_37] at BK264)
              (try simp only [hl265001_37] at HO_6)
              (try simp only [hl265001_37] at HO_9)
              cases kq with
              |zero=>exact absurd HA.1 (by simp [laws_FnExactPlacesWith.j1])
              |succ kj37=>
                have H:=HA.1;clear HA;simp only [laws_FnExactPlacesWith.j1] at H
                by_cases c53:x65_37=true
                · subst c53
                  have H1:(some false)=some true:=by rw [if_pos rfl] at H;exact H
                  cases H1
                · replace c53:=Bool.eq_false_iff.mpr c53
                  subst c53;have H1:((laws_markInt64S.f kj37 t265 1).bind fun bt278=>((laws_heldInt64S.f kj37 bt278.2 1).bind fun t280=>(if t280<0 then (some false) else (if t280=bt278.1 then ((laws_toCyclo.f kj37 a0_0 l0_1).bind fun bt281=>((impl_PlacesWith.f kj37 bt281.1 bt281.2 a1).bind fun bt285=>((laws_eqInt64S.f kj37 bt285.1 t256).bind fun t289=>(if t289=true then (laws_FnExactPlacesWith.j2 kj37 bt278.2 bt278.1 (bt285.2 !=t259)) else (laws_FnExactPlacesWith.j2 kj37 bt278.2 bt278.1 true))))) else (some false)))))=some true:=by rw [if_neg (show ¬(false=true) by decide)] at H;exact H
                  clear H;have H:=H1;clear H1;replace H:=qOb H;obtain⟨⟨t278,t279⟩,A540,H⟩:=H;replace H:((laws_heldInt64S.f kj37 t279 1).bind fun t280=>(if t280<0 then (some false) else (if t280=t278 then ((laws_toCyclo.f kj37 a0_0 l0_1).bind fun bt281=>((impl_PlacesWith.f kj37 bt281.1 bt281.2 a1).bind fun bt285=>((laws_eqInt64S.f kj37 bt285.1 t256).bind fun t289=>(if t289=true then (laws_FnExactPlacesWith.j2 kj37 t279 t278 (bt285.2 !=t259)) else (laws_FnExactPlacesWith.j2 kj37 t279 t278 true))))) else (some false))))=some true:=H;have A54:=qAm A540;clear A540;replace H:=qOb H;obtain⟨t280,A550,H⟩:=H;replace H:(if t280<0 then (some false) else (if t280=t278 then ((laws_toCyclo.f kj37 a0_0 l0_1).bind fun bt281=>((impl_PlacesWith.f kj37 bt281.1 bt281.2 a1).bind fun bt285=>((laws_eqInt64S.f kj37 bt285.1 t256).bind fun t289=>(if t289=true then (laws_FnExactPlacesWith.j2 kj37 t279 t278 (bt285.2 !=t259)) else (laws_FnExactPlacesWith.j2 kj37 t279 t278 true))))) else (some false)))=some true:=H;have A55:=qAm A550;clear A550
                  by_cases c56:t280<0
                  · rw [if_pos c56] at H
                    cases H
                  · rw [if_neg c56] at H
                    have c56b0:decide (t280<0)=false:=decide_eq_false c56;clear c56
                    by_cases c59:t280=t278
                    · rw [if_pos c59] at H
                      have c59b0:(t280==t278)=true:=beq_iff_eq.mpr c59;have c59b1:(t280 !=t278)=false:=bne_eq_false_iff_eq.mpr c59;clear c59;replace H:=qOb H;obtain⟨⟨t281,t282⟩,A600,H⟩:=H;replace H:((impl_PlacesWith.f kj37 t281 t282 a1).bind fun bt285=>((laws_eqInt64S.f kj37 bt285.1 t256).bind fun t289=>(if t289=true then (laws_FnExactPlacesWith.j2 kj37 t279 t278 (bt285.2 !=t259)) else (laws_FnExactPlacesWith.j2 kj37 t279 t278 true))))=some true:=H;have A60:=qAm A600;clear A600;replace H:=qOb H;obtain⟨⟨t285,t288⟩,A610,H⟩:=H;replace H:((laws_eqInt64S.f kj37 t285 t256).bind fun t289=>(if t289=true then (laws_FnExactPlacesWith.j2 kj37 t279 t278 (t288 !=t259)) else (laws_FnExactPlacesWith.j2 kj37 t279 t278 true)))=some true:=H;have A61:=qAm A610;clear A610;have HC62:=qAm H;clear H;obtain⟨Ao63,co63,eo63⟩:=Kd.R_slice HO_9.1;subst eo63;go_upto_region 25 with (first|((with_reducible refine gate_callee (f:=16) rfl ?_);refine goesL_ (some 68) rfl rfl Try.func16 (by kernel_rfl) rfl #[.slice Ao63 t265.length co63,.int .i64 1] rfl qB14 ?_;(with_reducible refine(laws_markInt64S.calls kj37 (fun k_=>some k_=(.slice Ao63 t265.length co63:Value).ownBlock) (.slice Ao63 t265.length co63) t265 1 t278 t279 w _ ?side1 ?side2 A54.1).mono ?_);(case side1=>repeat(first|(with_reducible first|exact HB.1|apply below_alloc|apply pw_below_drewN|apply below_drew1|refine below_set ?_ GE250.1|refine below_set ?_ GE264.1)|exact HB.1));(case side2=>exact Kd.R_tight rfl HO_9.1);rintro e w64 ⟨rfl,hy0,hb,hkp⟩;refine⟨_,rfl,?_⟩;have n0_:=qAm (Kd.R_mono (ok':=fun k_=>some k_≠(.slice Ao63 t265.length co63:Value).ownBlock∧some k_≠(.slice Ao25 t276.length co25:Value).ownBlock) (Kd.R_keptB (HO_6.1) hkp (fun k_ hk_ hs_=>(hk_.1) hs_)) (fun k_ hk_=>⟨hk_.1.1,hk_.1.2⟩));have n1_:=qAm (Kd.R_reok rfl hy0 (fun k_ e_=>HO_9.1.1 k_ e_));have n2_:=qAm (Kd.R_mono (ok':=fun k_=>some k_≠(v257:Value).ownBlock∧some k_≠(.slice Ao63 t265.length co63:Value).ownBlock) (Kd.R_keptB (HO_265001.1) hkp (fun k_ hk_ hs_=>(hk_.2) hs_)) (fun k_ hk_=>⟨hk_.1.1,hk_.1.2⟩));have n3_:=qAm (blk_kept qB23 hkp (fun hs_=>(fun e_=>(Kd.R_ne HO_9.1 BK250.1 (by decide)) e_) hs_));have n4_:=qAm (blk_kept qB24 hkp (fun hs_=>(fun e_=>(Kd.R_ne HO_9.1 BK264.1 (by decide)) e_) hs_));have n5_:=qAm (hb);clear HO_6;clear HO_9;clear HO_265001;clear BK250;clear BK264;clear HB;have HO_6:=n0_;have HO_9:=n1_;have HO_265001:=n2_;have BK250:=n3_;have BK264:=n4_;have HB:=n5_;clear n0_ n1_ n2_ n3_ n4_ n5_;(try clear hb);(try clear hkp);(try clear hy0))|((with_reducible refine gate_callee (f:=17) rfl ?_);refine goesL_ (some 71) rfl rfl Try.func17 (by kernel_rfl) rfl #[.slice Ao63 t279.length co63,.int .i64 1] rfl (by (try simp only [List.map_toArray,List.map_cons,List.map_nil]);first|done|(rw [show t279.length=t265.length from (Kd.R_reads' HO_9.1).1.symm] <;> rfl)|rfl|(simp only [List.length_drop,List.length_take];rfl)) ?_;(with_reducible refine(laws_heldInt64S.calls kj37 _ _ t279 1 t280 _ ?side1 ?side2 A55.1).mono ?_);(case side1=>repeat(first|exact(Kd.R_reads' HO_9.1).2.2|(with_reducible refine Kd.C_alloc ?_ _)|(with_reducible refine Kd.C_drewN ?_ _)|(with_reducible refine Kd.C_drew ?_)));(case side2=>rw [show t279.length=t265.length from (Kd.R_reads' HO_9.1).1.symm];exact(Kd.R_reads' HO_9.1).2.1);rintro e w' ⟨rfl,⟨nd,rfl⟩⟩;refine⟨_,rfl,?_⟩;have hnb65:=NB250_264.1;have hnc65:=NB264_250.1;have hcz66_0:w64.cell? ⟨gb250,0,none⟩=some (.int .i64 a0_0):=(blk_cell BK250.1 0).trans rfl;have hcz66_1:w64.cell? ⟨gb250,1,none⟩=some (.slice A0_1 l0_1.length c0_1):=(blk_cell BK250.1 1).trans rfl;have hfz66_0:=blk_frozen BK250.1 0;have hfz66_1:=blk_frozen BK250.1 1)|((with_reducible refine gate_callee (f:=11) rfl ?_);refine goesL_ (some 79) rfl rfl Try.func11 (by kernel_rfl) rfl #[.agg #[.int .i64 a0_0,.slice A0_1 l0_1.length c0_1]] rfl qB14 ?_;(with_reducible refine(laws_toCyclo.calls kj37 a0_0 _ _ l0_1 t281 t282 _ ?side1 ?side2 A60.1).mono ?_);(case side1=>repeat(first|exact(Kd.C_below HR0_1.1 qB6)|(with_reducible refine Kd.C_alloc ?_ _)|(with_reducible refine Kd.C_drewN ?_ _)|(with_reducible refine Kd.C_drew ?_)));(case side2=>exact HC0_1.1);rintro e w67 ⟨v283,rfl,ho0,hb⟩;refine⟨_,rfl,?_⟩;have n0_:=qAm (Kd.R_elder' qB37 (Kd.R_base ho0) hb);have n1_:=qAm (Kd.R_elder' qB39 (Kd.R_base ho0) hb);have n2_:=qAm (Kd.R_elder' qB25 (Kd.R_base ho0) hb);have n3_:=qAm (Kd.R_lower (Kd.R_new' (Kd.R_new' (Kd.R_new' ho0 (Kd.R_lt qB37)) (Kd.R_lt qB39)) (Kd.R_lt qB25)) (below_size qB6));have n4_:=qAm (blk_below (g:=gb250) (o:=.cells #[.int .i64 a0_0,.slice A0_1 l0_1.length c0_1] 24 (0,0)) qB23 hb);have n5_:=qAm (blk_below (g:=gb264) (o:=.cells #[.int .i64 t260,.slice Ao25 t276.length co25] 28 (0,0)) qB24 hb);have n6_:=qAm (below_step qB6 hb);clear HO_6;clear HO_9;clear HO_265001;clear BK250;clear BK264;clear HB;have HO_6:=n0_;have HO_9:=n1_;have HO_265001:=n2_;have HO284:=n3_;have BK250:=n4_;have BK264:=n5_;have HB:=n6_;clear n0_ n1_ n2_ n3_ n4_ n5_ n6_;(try clear hb);(try clear hb2);(try clear hk);(try clear hi);(try clear ho0);obtain⟨Ao68,co68,eo68⟩:=Kd.R_slice HO284.1;subst eo68)|((with_reducible refine gate_callee (f:=12) rfl ?_);refine goesL_ (some 81) rfl rfl Try.func12 (by kernel_rfl) rfl #[.agg #[.int .i64 t281,.slice Ao68 t282.length co68],.int .i64 a1] rfl qB14 ?_;(with_reducible refine(impl_PlacesWith.calls kj37 t281 _ _ t282 a1 t285 t288 _ ?side1 ?side2 A61.1).mono ?_);(case side1=>repeat(first|exact(Kd.R_reads' HO284.1).2.2|(with_reducible refine Kd.C_alloc ?_ _)|(with_reducible refine Kd.C_drewN ?_ _)|(with_reducible refine Kd.C_drew ?_)));(case side2=>exact(Kd.R_reads' HO284.1).2.1);rintro e w69 ⟨v286,rfl,ho0,hb⟩;refine⟨_,rfl,?_⟩;have n0_:=qAm (Kd.R_elder' qB37 (Kd.R_base ho0) hb);have n1_:=qAm (Kd.R_elder' qB39 (Kd.R_base ho0) hb);have n2_:=qAm (Kd.R_elder' qB25 (Kd.R_base ho0) hb);have n3_:=qAm (Kd.R_elder' qB35 (Kd.R_base ho0) hb);have n4_:=qAm (Kd.R_lower (Kd.R_new' (Kd.R_new' (Kd.R_new' (Kd.R_new' ho0 (Kd.R_lt qB37)) (Kd.R_lt qB39)) (Kd.R_lt qB25)) (Kd.R_lt qB35)) (below_size qB6));have n5_:=qAm (blk_below (g:=gb250) (o:=.cells #[.int .i64 a0_0,.slice A0_1 l0_1.length c0_1] 24 (0,0)) qB23 hb);have n6_:=qAm (blk_below (g:=gb264) (o:=.cells #[.int .i64 t260,.slice Ao25 t276.length co25] 28 (0,0)) qB24 hb);have n7_:=qAm (below_step qB6 hb);clear HO_6;clear HO_9;clear HO_265001;clear HO284;clear BK250;clear BK264;clear HB;have HO_6:=n0_;have HO_9:=n1_;have HO_265001:=n2_;have HO284:=n3_;have HO287:=n4_;have BK250:=n5_;have BK264:=n6_;have HB:=n7_;clear n0_ n1_ n2_ n3_ n4_ n5_ n6_ n7_;(try clear hb);(try clear hb2);(try clear hk);(try clear hi);(try clear ho0)))
                      (try simp only [Act.put,qSa,qSb,qSc])
                      go_cut [92] (fun v92 wc=>∃(kq:Nat) (x92_61:Bool),v92=.bool x92_61∧Aside0 (laws_FnExactPlacesWith.j2 kq t279 t278 x92_61=some true)∧Aside0 (kq≤kj37)∧Aside0 (Kd.R (Kd.int .i64) 2 wc w.heap.size (fun k_=>some k_≠((.slice Ao25 t276.length co25):Value).ownBlock) (.slice Ao63 t265.length co63) t279)∧Aside0 (Kd.R (Kd.int .i64) 2 wc w.heap.size (fun k_=>some k_≠((.slice Ao63 t265.length co63):Value).ownBlock) (.slice Ao25 t276.length co25) t276)∧Aside0 (wc.heap[gb250]? =some (.cells #[.int .i64 a0_0,(.slice A0_1 l0_1.length c0_1)] 24 (0,0)))∧Aside0 (wc.heap[gb264]? =some (.cells #[.int .i64 t260,(.slice Ao25 t276.length co25)] 28 (0,0)))∧Aside0 (Below w.heap.size w wc))
                      case first=>
                        have H:=HC62.1;clear HC62;replace H:=qOb H;obtain⟨t289,A700,H⟩:=H;replace H:(if t289=true then (laws_FnExactPlacesWith.j2 kj37 t279 t278 (t288 !=t259)) else (laws_FnExactPlacesWith.j2 kj37 t279 t278 true))=some true:=H;have A70:=qAm A700;clear A700
                        by_cases c71:t289=true
                        · subst c71
                          have H1:(laws_FnExactPlacesWith.j2 kj37 t279 t278 (t288 !=t259))=some true:=by rw [if_pos rfl] at H;exact H
                          clear H;have H:=H1;clear H1;have H':=qAm H;clear H;obtain⟨Ao72,co72,eo72⟩:=Kd.R_slice HO287.1;subst eo72;obtain⟨Ao73,co73,eo73⟩:=Kd.R_slice HO_6.1;subst eo73;go_wp2_with (first|((with_reducible refine gate_callee (f:=13) rfl ?_);refine goesL_ (some 86) rfl rfl Try.func13 (by kernel_rfl) rfl #[.slice Ao72 t285.length co72,.slice Ao73 t256.length co73] rfl qB14 ?_;(with_reducible refine(laws_eqInt64S.calls kj37 _ _ t285 _ _ t256 true _ ?side1 ?side2 ?side3 ?side4 A70.1).mono ?_);(case side1=>repeat(first|exact(Kd.R_reads' HO287.1).2.2|(with_reducible refine Kd.C_alloc ?_ _)|(with_reducible refine Kd.C_drewN ?_ _)|(with_reducible refine Kd.C_drew ?_)));(case side2=>exact(Kd.R_reads' HO287.1).2.1);(case side3=>repeat(first|exact(Kd.R_reads' HO_6.1).2.2|(with_reducible refine Kd.C_alloc ?_ _)|(with_reducible refine Kd.C_drewN ?_ _)|(with_reducible refine Kd.C_drew ?_)));(case side4=>exact(Kd.R_reads' HO_6.1).2.1);rintro e w' ⟨rfl,⟨nd,rfl⟩⟩;refine⟨_,rfl,?_⟩));go_meet
                          case rel=>exact⟨_,((t288 !=t259)),qB41,H',⟨by have:=HJ11.1;have:=HJ37.1;first|omega|exact Nat.le_refl _⟩,⟨by (try simp only [hl265001_37]);(with_reducible repeat(first|apply Kd.R_alloc|apply Kd.R_drewN|apply Kd.R_drew));exact Kd.R_mono HO_9.1 (fun _ hk=>hk.1.1.2)⟩,⟨by (try simp only [hl265001_37]);(with_reducible repeat(first|apply Kd.R_alloc|apply Kd.R_drewN|apply Kd.R_drew));exact Kd.R_mono HO_265001.1 (fun _ hk=>hk.1.1.2)⟩,⟨by (try simp only [hl265001_37]);(with_reducible repeat(first|refine blk_drewN ?_ _|refine blk_drew ?_|refine blk_alloc ?_ _));exact BK250.1⟩,⟨by (try simp only [hl265001_37]);(with_reducible repeat(first|refine blk_drewN ?_ _|refine blk_drew ?_|refine blk_alloc ?_ _));exact BK264.1⟩,⟨by repeat(first|(with_reducible first|exact HB.1|apply below_alloc|apply pw_below_drewN|apply below_drew1|refine below_set ?_ GE250.1|refine below_set ?_ GE264.1)|exact HB.1)⟩⟩
                        · replace c71:=Bool.eq_false_iff.mpr c71
                          subst c71;have H1:(laws_FnExactPlacesWith.j2 kj37 t279 t278 true)=some true:=by rw [if_neg (show ¬(false=true) by decide)] at H;exact H
                          exact(laws_FnExactPlacesWith.j2_no _ _ _ H1).elim
                      case rest=>
                        clear HC62;try clear c1
                        try clear c2
                        try clear p2
                        try clear c3
                        try clear c4
                        try clear c4b0
                        try clear c5
                        try clear c6
                        try clear c7
                        try clear c9
                        try clear c10
                        try clear c11
                        try clear c12
                        try clear c13
                        try clear c14
                        try clear c15
                        try clear c16
                        try clear c17
                        try clear c23
                        try clear c28
                        try clear c33
                        try clear c36
                        try clear c43
                        try clear c46
                        try clear c46b0
                        try clear c48
                        try clear c53
                        try clear c56
                        try clear c56b0
                        try clear c59
                        try clear c59b0
                        try clear c59b1
                        try clear c65
                        try clear c71
                        try clear hcz14_0
                        try clear hcz14_1
                        try clear hcz16_0
                        try clear hcz16_1
                        try clear hcz20_0
                        try clear hcz20_1
                        try clear hcz24_0
                        try clear hcz24_1
                        try clear hcz44_0
                        try clear hcz44_1
                        try clear hcz66_0
                        try clear hcz66_1
                        try clear hcz6_0
                        try clear hcz6_1
                        try clear hfz14_0
                        try clear hfz14_1
                        try clear hfz16_0
                        try clear hfz16_1
                        try clear hfz20_0
                        try clear hfz20_1
                        try clear hfz24_0
                        try clear hfz24_1
                        try clear hfz44_0
                        try clear hfz44_1
                        try clear hfz66_0
                        try clear hfz66_1
                        try clear hfz6_0
                        try clear hfz6_1
                        try clear p2
                        obtain⟨kq,x92_61,rfl,HA,HJ61,HO_9,HO_265001,BK250,BK264,HB⟩:=hcut;have hl9_61:=(Kd.R_reads' HO_9.1).1;rw [hl9_61] at HO_9
                        (try simp only [hl9_61])
                        (try simp only [hl9_61] at BK250)
                        (try simp only [hl9_61] at BK264)
                        (try simp only [hl9_61] at HO_265001)
                        cases kq with
                        |zero=>exact absurd HA.1 (by simp [laws_FnExactPlacesWith.j2])
                        |succ kj61=>
                          have H:=HA.1;clear HA;simp only [laws_FnExactPlacesWith.j2] at H
                          by_cases c76:x92_61=true
                          · subst c76
                            have H1:(some false)=some true:=by rw [if_pos rfl] at H;exact H
                            cases H1
                          · replace c76:=Bool.eq_false_iff.mpr c76
                            subst c76;have H1:((laws_heldInt64S.f kj61 t279 1).bind fun t290=>(if t290<0 then (some false) else (if t290=t278 then (some true) else (some false))))=some true:=by rw [if_neg (show ¬(false=true) by decide)] at H;exact H
                            clear H;have H:=H1;clear H1;replace H:=qOb H;obtain⟨t290,A770,H⟩:=H;replace H:(if t290<0 then (some false) else (if t290=t278 then (some true) else (some false)))=some true:=H;have A77:=qAm A770;clear A770
                            by_cases c78:t290<0
                            · rw [if_pos c78] at H
                              cases H
                            · rw [if_neg c78] at H
                              have c78b0:decide (t290<0)=false:=decide_eq_false c78;clear c78
                              by_cases c79:t290=t278
                              · rw [if_pos c79] at H
                                have c79b0:(t290==t278)=true:=beq_iff_eq.mpr c79;have c79b1:(t290 !=t278)=false:=bne_eq_false_iff_eq.mpr c79;clear c79 H;go_wp2_with (first|((with_reducible refine gate_callee (f:=17) rfl ?_);refine goesL_ (some 95) rfl rfl Try.func17 (by kernel_rfl) rfl #[.slice Ao63 t279.length co63,.int .i64 1] rfl qB14 ?_;(with_reducible refine(laws_heldInt64S.calls kj61 _ _ t279 1 t290 _ ?side1 ?side2 A77.1).mono ?_);(case side1=>repeat(first|exact(Kd.R_reads' HO_9.1).2.2|(with_reducible refine Kd.C_alloc ?_ _)|(with_reducible refine Kd.C_drewN ?_ _)|(with_reducible refine Kd.C_drew ?_)));(case side2=>exact(Kd.R_reads' HO_9.1).2.1);rintro e w' ⟨rfl,⟨nd,rfl⟩⟩;refine⟨_,rfl,?_⟩));go_ret;exact⟨by first|rfl|(simp [errW_none,errW_some] <;> rfl)|(simp [*,errW_none,errW_some] <;> rfl),by repeat(first|(with_reducible first|exact HB.1|apply below_alloc|apply pw_below_drewN|apply below_drew1|refine below_set ?_ GE250.1|refine below_set ?_ GE264.1)|exact HB.1)⟩
                              · rw [if_neg c79] at H
                                cases H
                    · rw [if_neg c59] at H
                      cases H
          · replace c36:=Bool.eq_false_iff.mpr c36
            subst c36;have H1:(some false)=some true:=by rw [if_neg (show ¬(false=true) by decide)] at H;exact H
            cases H1

/-- THE ONE PURE STATEMENT of laws_FnExactPlacesWith. -/
def laws_FnExactPlacesWith.Pure:Prop:=∀(a0_0:Int) (l0_1:List Int) (a1:Int),(Lit.int .i64 a0_0).wf=true→l0_1.length≤maxLen→(∀x∈l0_1,(Lit.int .i64 x).wf=true)→(Lit.int .i64 a1).wf=true→∃k,laws_FnExactPlacesWith.f k a0_0 l0_1 a1=some true
theorem laws_FnExactPlacesWith.walk (P:laws_FnExactPlacesWith.Pure) (a0_0:Int) (a0_1:Option Addr) (len0_1 cap0_1:Nat) (z0_1:List Int) (a1:Int) (w:World) (w0_0:(Lit.int .i64 a0_0).wf=true) (w0_1:(a0_1=none∧len0_1=0∧cap0_1=0∧z0_1=[])∨∃x,a0_1=some x∧len0_1≤cap0_1∧cap0_1≤maxLen∧z0_1.length=cap0_1∧(∀i,i<z0_1.length→w.cell? (x.add i)=some (.int .i64 (z0_1.getD i 0)))∧∀n∈z0_1,(Lit.int .i64 n).wf=true) (w1:(Lit.int .i64 a1).wf=true):
    Calls Try.prog 3 #[.agg #[.int .i64 a0_0,.slice a0_1 len0_1 cap0_1],.int .i64 a1] w fun e w'=>e=.returned (.bool true)∧Below w.heap.size w w':=by
  obtain⟨l0_1,rfl,hr0_1,hm0_1,hw0_1,hc0_1⟩:=ReadsInt.ofRowC w0_1;obtain⟨k,h⟩:=P a0_0 l0_1 a1 w0_0 hm0_1 hw0_1 w1;refine(laws_FnExactPlacesWith.calls k a0_0 _ _ l0_1 a1 w (Kd.C_of_reads (d:=(0:Int)) (h1:=fun _=>rfl) hr0_1) hc0_1 h).mono ?_;rintro e w' ⟨rfl,hd⟩;exact⟨rfl,hd⟩

end Go.Proofs.Ytefhabkikaadiaa.PFnExactPlacesWith
