/- The functions that the law reaches, as plain functions, each with the proof that the program comes to it; no condition. Written by a program of this session (wip/mp.py) over the printing of the kit; what is marked HAND is told by hand. -/
import Derived.Test.YtefhabkikaadiaaPFnExactCycloAtResiduesx0
import Derived.Test.YtefhabkikaadiaaPFnExactCycloAtResiduesx1
import Derived.Test.YtefhabkikaadiaaPFnExactCycloAtResiduesx4
import Derived.Test.YtefhabkikaadiaaPFnExactCycloAtResiduesx5
import Derived.Test.YtefhabkikaadiaaPFnExactCycloAtResiduesx9
namespace Go.Proofs.Ytefhabkikaadiaa.PFnExactCycloAtResidues
open Go.RowKit Go.Proofs.YtefhabkikaadiaaW.PrintWords Go.Proofs.YtefhabkikaadiaaW.PrintLast Go.Proofs.YtefhabkikaadiaaW.PrintMore
attribute [local go_sem] max2_int min2_int max_two min_two max_three min_three max_four min_four   -- for this text's walks alone
set_option linter.unusedVariables false
set_option linter.unusedSimpArgs false

/-! ### laws_FnExactCycloAtResidues: function 7 -/
mutual
def laws_FnExactCycloAtResidues.j0:Nat→Int→Int→List Int→Int→List Int→Int→Bool→Int→List Int→Int→List Int→Option (Bool)
  |0,_,_,_,_,_,_,_,_,_,_,_=>none
  |k+1,x0,x1,x2,x8,x9,x11,x45,x293000,x293001,x302000,x302001=>if x45=true then (some false) else ((laws_toInt64S.f k x2).bind fun t303=>((laws_eqInt64S.f k x9 t303).bind fun t306=>(if t306=true then ((laws_markInt64S.f k x9 1).bind fun bt307=>(if bt307.1<0 then (laws_FnExactCycloAtResidues.j1 k x0 x1 x2 x8 true x293000 x293001 x302000 x302001) else ((laws_eqCyclo.f k x302000 x302001 x293000 x293001).bind fun t309=>(if t309=true then (laws_FnExactCycloAtResidues.j1 k x0 x1 x2 x8 (x11 !=x8) x293000 x293001 x302000 x302001) else (laws_FnExactCycloAtResidues.j1 k x0 x1 x2 x8 true x293000 x293001 x302000 x302001))))) else (some false))))
def laws_FnExactCycloAtResidues.j1:Nat→Int→Int→List Int→Int→Bool→Int→List Int→Int→List Int→Option (Bool)
  |0,_,_,_,_,_,_,_,_,_=>none
  |k+1,x0,x1,x2,x8,x66,x293000,x293001,x302000,x302001=>if x66=true then (some false) else ((laws_markCyclo.f k x302000 x302001 1).bind fun bt310=>((laws_heldCyclo.f k x302000 bt310.2 1).bind fun t312=>(if t312<0 then (some false) else (if t312=bt310.1 then ((laws_toInt64S.f k x2).bind fun t313=>((impl_CycloAtResidues.f k x0 x1 t313).bind fun bt316=>((laws_eqCyclo.f k bt316.1 bt316.2.1 x293000 x293001).bind fun t322=>(if t322=true then (laws_FnExactCycloAtResidues.j2 k bt310.1 (bt316.2.2 !=x8) x302000 bt310.2) else (laws_FnExactCycloAtResidues.j2 k bt310.1 true x302000 bt310.2))))) else (some false)))))
def laws_FnExactCycloAtResidues.j2:Nat→Int→Bool→Int→List Int→Option (Bool)
  |0,_,_,_,_=>none
  |k+1,x13,x94,x302000,x302001=>if x94=true then (some false) else ((laws_heldCyclo.f k x302000 x302001 1).bind fun t323=>(if t323<0 then (some false) else (if t323=x13 then (some true) else (some false))))
end
def laws_FnExactCycloAtResidues.f (k:Nat) (a0:Int) (a1:Int) (l2:List Int):Option (Bool):=if (l2.length:Int) > 1048576 then (some true) else ((laws_toInt64S.f k l2).bind fun t284=>((spec_CycloAtResidues.f k a0 a1 t284).bind fun bt287=>((laws_toInt64S.f k l2).bind fun t293=>((impl_CycloAtResidues.f k a0 a1 t293).bind fun bt296=>((laws_eqCyclo.f k bt296.1 bt296.2.1 bt287.1 bt287.2.1).bind fun t302=>(if t302=true then (laws_FnExactCycloAtResidues.j0 k a0 a1 l2 bt287.2.2 t293 bt296.2.2 (bt296.2.2 !=bt287.2.2) bt287.1 bt287.2.1 bt296.1 bt296.2.1) else (laws_FnExactCycloAtResidues.j0 k a0 a1 l2 bt287.2.2 t293 bt296.2.2 true bt287.1 bt287.2.1 bt296.1 bt296.2.1)))))))
theorem laws_FnExactCycloAtResidues.mono_l:∀k,(∀y0 y1 y2 y3 y4 y5 y6 y7 y8 y9 y10,LeO (laws_FnExactCycloAtResidues.j0 k y0 y1 y2 y3 y4 y5 y6 y7 y8 y9 y10) (laws_FnExactCycloAtResidues.j0 (k+1) y0 y1 y2 y3 y4 y5 y6 y7 y8 y9 y10))∧(∀y0 y1 y2 y3 y4 y5 y6 y7 y8,LeO (laws_FnExactCycloAtResidues.j1 k y0 y1 y2 y3 y4 y5 y6 y7 y8) (laws_FnExactCycloAtResidues.j1 (k+1) y0 y1 y2 y3 y4 y5 y6 y7 y8))∧(∀y0 y1 y2 y3,LeO (laws_FnExactCycloAtResidues.j2 k y0 y1 y2 y3) (laws_FnExactCycloAtResidues.j2 (k+1) y0 y1 y2 y3))
  |0=>⟨fun _ _ _ _ _ _ _ _ _ _ _ r h=>by simp [laws_FnExactCycloAtResidues.j0] at h,fun _ _ _ _ _ _ _ _ _ r h=>by simp [laws_FnExactCycloAtResidues.j1] at h,fun _ _ _ _ r h=>by simp [laws_FnExactCycloAtResidues.j2] at h⟩
  |k+1=>by
    obtain⟨ih0,ih1,ih2⟩:=laws_FnExactCycloAtResidues.mono_l k;refine⟨?_,?_,?_⟩
    · intro y0 y1 y2 y3 y4 y5 y6 y7 y8 y9 y10
      unfold laws_FnExactCycloAtResidues.j0;repeat' first
      |(with_reducible exact ih0 _ _ _ _ _ _ _ _ _ _ _)
      |(with_reducible exact ih1 _ _ _ _ _ _ _ _ _)
      |(with_reducible exact ih2 _ _ _ _)
      |(with_reducible exact impl_CycloAtResidues.mono _ _ _ _)
      |(with_reducible exact laws_eqCyclo.mono _ _ _ _ _)
      |(with_reducible exact laws_eqInt64S.mono _ _ _)
      |(with_reducible exact laws_heldCyclo.mono _ _ _ _)
      |(with_reducible exact laws_markCyclo.mono _ _ _ _)
      |(with_reducible exact laws_markInt64S.mono _ _ _)
      |(with_reducible exact laws_toInt64S.mono _ _)
      |(with_reducible exact spec_CycloAtResidues.mono _ _ _ _)
      |(with_reducible exact LeO.refl _)
      |(with_reducible exact LeO.none _)
      |(with_reducible refine LeO.ite ?_ ?_)
      |(with_reducible refine LeO.bind ?_ (fun _=>?_))
      |exact ih0 _ _ _ _ _ _ _ _ _ _ _
      |exact ih1 _ _ _ _ _ _ _ _ _
      |exact ih2 _ _ _ _
      |exact impl_CycloAtResidues.mono _ _ _ _
      |exact laws_eqCyclo.mono _ _ _ _ _
      |exact laws_eqInt64S.mono _ _ _
      |exact laws_heldCyclo.mono _ _ _ _
      |exact laws_markCyclo.mono _ _ _ _
      |exact laws_markInt64S.mono _ _ _
      |exact laws_toInt64S.mono _ _
      |exact spec_CycloAtResidues.mono _ _ _ _
      |exact LeO.none _
      |refine LeO.ite ?_ ?_
      |refine LeO.bind ?_ (fun _=>?_)
    · intro y0 y1 y2 y3 y4 y5 y6 y7 y8
      unfold laws_FnExactCycloAtResidues.j1;repeat' first
      |(with_reducible exact ih0 _ _ _ _ _ _ _ _ _ _ _)
      |(with_reducible exact ih1 _ _ _ _ _ _ _ _ _)
      |(with_reducible exact ih2 _ _ _ _)
      |(with_reducible exact impl_CycloAtResidues.mono _ _ _ _)
      |(with_reducible exact laws_eqCyclo.mono _ _ _ _ _)
      |(with_reducible exact laws_eqInt64S.mono _ _ _)
      |(with_reducible exact laws_heldCyclo.mono _ _ _ _)
      |(with_reducible exact laws_markCyclo.mono _ _ _ _)
      |(with_reducible exact laws_markInt64S.mono _ _ _)
      |(with_reducible exact laws_toInt64S.mono _ _)
      |(with_reducible exact spec_CycloAtResidues.mono _ _ _ _)
      |(with_reducible exact LeO.refl _)
      |(with_reducible exact LeO.none _)
      |(with_reducible refine LeO.ite ?_ ?_)
      |(with_reducible refine LeO.bind ?_ (fun _=>?_))
      |exact ih0 _ _ _ _ _ _ _ _ _ _ _
      |exact ih1 _ _ _ _ _ _ _ _ _
      |exact ih2 _ _ _ _
      |exact impl_CycloAtResidues.mono _ _ _ _
      |exact laws_eqCyclo.mono _ _ _ _ _
      |exact laws_eqInt64S.mono _ _ _
      |exact laws_heldCyclo.mono _ _ _ _
      |exact laws_markCyclo.mono _ _ _ _
      |exact laws_markInt64S.mono _ _ _
      |exact laws_toInt64S.mono _ _
      |exact spec_CycloAtResidues.mono _ _ _ _
      |exact LeO.none _
      |refine LeO.ite ?_ ?_
      |refine LeO.bind ?_ (fun _=>?_)
    · intro y0 y1 y2 y3
      unfold laws_FnExactCycloAtResidues.j2;repeat' first
      |(with_reducible exact ih0 _ _ _ _ _ _ _ _ _ _ _)
      |(with_reducible exact ih1 _ _ _ _ _ _ _ _ _)
      |(with_reducible exact ih2 _ _ _ _)
      |(with_reducible exact impl_CycloAtResidues.mono _ _ _ _)
      |(with_reducible exact laws_eqCyclo.mono _ _ _ _ _)
      |(with_reducible exact laws_eqInt64S.mono _ _ _)
      |(with_reducible exact laws_heldCyclo.mono _ _ _ _)
      |(with_reducible exact laws_markCyclo.mono _ _ _ _)
      |(with_reducible exact laws_markInt64S.mono _ _ _)
      |(with_reducible exact laws_toInt64S.mono _ _)
      |(with_reducible exact spec_CycloAtResidues.mono _ _ _ _)
      |(with_reducible exact LeO.refl _)
      |(with_reducible exact LeO.none _)
      |(with_reducible refine LeO.ite ?_ ?_)
      |(with_reducible refine LeO.bind ?_ (fun _=>?_))
      |exact ih0 _ _ _ _ _ _ _ _ _ _ _
      |exact ih1 _ _ _ _ _ _ _ _ _
      |exact ih2 _ _ _ _
      |exact impl_CycloAtResidues.mono _ _ _ _
      |exact laws_eqCyclo.mono _ _ _ _ _
      |exact laws_eqInt64S.mono _ _ _
      |exact laws_heldCyclo.mono _ _ _ _
      |exact laws_markCyclo.mono _ _ _ _
      |exact laws_markInt64S.mono _ _ _
      |exact laws_toInt64S.mono _ _
      |exact spec_CycloAtResidues.mono _ _ _ _
      |exact LeO.none _
      |refine LeO.ite ?_ ?_
      |refine LeO.bind ?_ (fun _=>?_)
theorem laws_FnExactCycloAtResidues.mono:∀a0 a1 a2 k,LeO (laws_FnExactCycloAtResidues.f k a0 a1 a2) (laws_FnExactCycloAtResidues.f (k+1) a0 a1 a2):=by
  intro a0 a1 a2 k;obtain⟨ih0,ih1,ih2⟩:=laws_FnExactCycloAtResidues.mono_l k;unfold laws_FnExactCycloAtResidues.f;repeat' first
      |(with_reducible exact ih0 _ _ _ _ _ _ _ _ _ _ _)
      |(with_reducible exact ih1 _ _ _ _ _ _ _ _ _)
      |(with_reducible exact ih2 _ _ _ _)
      |(with_reducible exact impl_CycloAtResidues.mono _ _ _ _)
      |(with_reducible exact laws_eqCyclo.mono _ _ _ _ _)
      |(with_reducible exact laws_eqInt64S.mono _ _ _)
      |(with_reducible exact laws_heldCyclo.mono _ _ _ _)
      |(with_reducible exact laws_markCyclo.mono _ _ _ _)
      |(with_reducible exact laws_markInt64S.mono _ _ _)
      |(with_reducible exact laws_toInt64S.mono _ _)
      |(with_reducible exact spec_CycloAtResidues.mono _ _ _ _)
      |(with_reducible exact LeO.refl _)
      |(with_reducible exact LeO.none _)
      |(with_reducible refine LeO.ite ?_ ?_)
      |(with_reducible refine LeO.bind ?_ (fun _=>?_))
      |exact ih0 _ _ _ _ _ _ _ _ _ _ _
      |exact ih1 _ _ _ _ _ _ _ _ _
      |exact ih2 _ _ _ _
      |exact impl_CycloAtResidues.mono _ _ _ _
      |exact laws_eqCyclo.mono _ _ _ _ _
      |exact laws_eqInt64S.mono _ _ _
      |exact laws_heldCyclo.mono _ _ _ _
      |exact laws_markCyclo.mono _ _ _ _
      |exact laws_markInt64S.mono _ _ _
      |exact laws_toInt64S.mono _ _
      |exact spec_CycloAtResidues.mono _ _ _ _
      |exact LeO.none _
      |refine LeO.ite ?_ ?_
      |refine LeO.bind ?_ (fun _=>?_)
-- TRUE ALONE
theorem laws_FnExactCycloAtResidues.j0_no (k:Nat) (y0:Int) (y1:Int) (y2:List Int) (y3:Int) (y4:List Int) (y5:Int) (y7:Int) (y8:List Int) (y9:Int) (y10:List Int) (h:laws_FnExactCycloAtResidues.j0 k y0 y1 y2 y3 y4 y5 true y7 y8 y9 y10=some true):False:=by
  cases k with
  |zero=>first|(simp only [laws_FnExactCycloAtResidues.j0] at h;done)|(simp only [laws_FnExactCycloAtResidues.j0] at h;cases h)
  |succ k=>rw [laws_FnExactCycloAtResidues.j0,if_pos rfl] at h;cases h
theorem laws_FnExactCycloAtResidues.j1_no (k:Nat) (y0:Int) (y1:Int) (y2:List Int) (y3:Int) (y5:Int) (y6:List Int) (y7:Int) (y8:List Int) (h:laws_FnExactCycloAtResidues.j1 k y0 y1 y2 y3 true y5 y6 y7 y8=some true):False:=by
  cases k with
  |zero=>first|(simp only [laws_FnExactCycloAtResidues.j1] at h;done)|(simp only [laws_FnExactCycloAtResidues.j1] at h;cases h)
  |succ k=>rw [laws_FnExactCycloAtResidues.j1,if_pos rfl] at h;cases h
theorem laws_FnExactCycloAtResidues.j2_no (k:Nat) (y0:Int) (y2:Int) (y3:List Int) (h:laws_FnExactCycloAtResidues.j2 k y0 true y2 y3=some true):False:=by
  cases k with
  |zero=>first|(simp only [laws_FnExactCycloAtResidues.j2] at h;done)|(simp only [laws_FnExactCycloAtResidues.j2] at h;cases h)
  |succ k=>rw [laws_FnExactCycloAtResidues.j2,if_pos rfl] at h;cases h
set_option maxHeartbeats 8000000 in
set_option maxRecDepth 100000 in
theorem laws_FnExactCycloAtResidues.calls (k:Nat) (a0:Int) (a1:Int) (A2:Option Addr) (c2:Nat) (l2:List Int) (w:World) (hr2:Kd.C (Kd.int .i64) w A2 l2.length l2) (hc2:l2.length≤c2) (h:laws_FnExactCycloAtResidues.f k a0 a1 l2=some true):
    Calls Try.prog 7 #[.int .i64 a0,.int .i64 a1,.slice A2 l2.length c2] w fun e w'=>e=.returned (.bool true)∧Below w.heap.size w w':=by
  have hu28:=Try.underlying28;have HR2:=qAm hr2;have HC2:=qAm hc2;clear hr2 hc2;have HB:=qAm (Below.refl w.heap.size w);have H:(if (l2.length:Int) > 1048576 then (some true) else ((laws_toInt64S.f k l2).bind fun t284=>((spec_CycloAtResidues.f k a0 a1 t284).bind fun bt287=>((laws_toInt64S.f k l2).bind fun t293=>((impl_CycloAtResidues.f k a0 a1 t293).bind fun bt296=>((laws_eqCyclo.f k bt296.1 bt296.2.1 bt287.1 bt287.2.1).bind fun t302=>(if t302=true then (laws_FnExactCycloAtResidues.j0 k a0 a1 l2 bt287.2.2 t293 bt296.2.2 (bt296.2.2 !=bt287.2.2) bt287.1 bt287.2.1 bt296.1 bt296.2.1) else (laws_FnExactCycloAtResidues.j0 k a0 a1 l2 bt287.2.2 t293 bt296.2.2 true bt287.1 bt287.2.1 bt296.1 bt296.2.1))))))))=some true:=h;clear h
  by_cases c4:(l2.length:Int) > 1048576
  · rw [if_pos c4] at H
    have c4b0:decide (1048576<(l2.length:Int))=true:=decide_eq_true c4;have c4b1:decide (1048576<l2.length)=true:=decide_eq_true (by omega);clear c4 H;go_enter Try.func7,Try.ntmps7;go_wp2;go_ret;exact⟨by first|rfl|(simp [errW_none,errW_some] <;> rfl)|(simp [*,errW_none,errW_some] <;> rfl),by repeat(first|(with_reducible first|exact HB.1|apply below_alloc|apply pw_below_drewN|apply below_drew1)|exact HB.1)⟩
  · rw [if_neg c4] at H
    have c4b0:decide (1048576<(l2.length:Int))=false:=decide_eq_false c4;have c4b1:decide (1048576<l2.length)=false:=decide_eq_false (by omega);clear c4;replace H:=qOb H;obtain⟨t284,A50,H⟩:=H;replace H:((spec_CycloAtResidues.f k a0 a1 t284).bind fun bt287=>((laws_toInt64S.f k l2).bind fun t293=>((impl_CycloAtResidues.f k a0 a1 t293).bind fun bt296=>((laws_eqCyclo.f k bt296.1 bt296.2.1 bt287.1 bt287.2.1).bind fun t302=>(if t302=true then (laws_FnExactCycloAtResidues.j0 k a0 a1 l2 bt287.2.2 t293 bt296.2.2 (bt296.2.2 !=bt287.2.2) bt287.1 bt287.2.1 bt296.1 bt296.2.1) else (laws_FnExactCycloAtResidues.j0 k a0 a1 l2 bt287.2.2 t293 bt296.2.2 true bt287.1 bt287.2.1 bt296.1 bt296.2.1))))))=some true:=H;have A5:=qAm A50;clear A50;replace H:=qOb H;obtain⟨⟨t287,t288,t291⟩,A60,H⟩:=H;replace H:((laws_toInt64S.f k l2).bind fun t293=>((impl_CycloAtResidues.f k a0 a1 t293).bind fun bt296=>((laws_eqCyclo.f k bt296.1 bt296.2.1 t287 t288).bind fun t302=>(if t302=true then (laws_FnExactCycloAtResidues.j0 k a0 a1 l2 t291 t293 bt296.2.2 (bt296.2.2 !=t291) t287 t288 bt296.1 bt296.2.1) else (laws_FnExactCycloAtResidues.j0 k a0 a1 l2 t291 t293 bt296.2.2 true t287 t288 bt296.1 bt296.2.1)))))=some true:=H;have A6:=qAm A60;clear A60;replace H:=qOb H;obtain⟨t293,A70,H⟩:=H;replace H:((impl_CycloAtResidues.f k a0 a1 t293).bind fun bt296=>((laws_eqCyclo.f k bt296.1 bt296.2.1 t287 t288).bind fun t302=>(if t302=true then (laws_FnExactCycloAtResidues.j0 k a0 a1 l2 t291 t293 bt296.2.2 (bt296.2.2 !=t291) t287 t288 bt296.1 bt296.2.1) else (laws_FnExactCycloAtResidues.j0 k a0 a1 l2 t291 t293 bt296.2.2 true t287 t288 bt296.1 bt296.2.1))))=some true:=H;have A7:=qAm A70;clear A70;replace H:=qOb H;obtain⟨⟨t296,t297,t300⟩,A80,H⟩:=H;replace H:((laws_eqCyclo.f k t296 t297 t287 t288).bind fun t302=>(if t302=true then (laws_FnExactCycloAtResidues.j0 k a0 a1 l2 t291 t293 t300 (t300 !=t291) t287 t288 t296 t297) else (laws_FnExactCycloAtResidues.j0 k a0 a1 l2 t291 t293 t300 true t287 t288 t296 t297)))=some true:=H;have A8:=qAm A80;clear A80;have HC9:=qAm H;clear H;go_enter Try.func7,Try.ntmps7;go_upto_region 6 with (first|((with_reducible refine gate_callee (f:=30) rfl ?_);refine goesL_ (some 24) rfl rfl Try.func30 (by kernel_rfl) rfl #[.slice A2 l2.length c2] rfl qB17 ?_;(with_reducible refine(laws_toInt64S.calls k _ _ l2 t284 _ ?side1 ?side2 A5.1).mono ?_);(case side1=>repeat(first|exact HR2.1|(with_reducible refine Kd.C_alloc ?_ _)|(with_reducible refine Kd.C_drewN ?_ _)|(with_reducible refine Kd.C_drew ?_)));(case side2=>exact HC2.1);rintro e w10 ⟨v285,rfl,ho0,hb⟩;refine⟨_,rfl,?_⟩;have n0_:=qAm (Kd.R_lower ho0 (below_size qB18));have n1_:=qAm (below_step qB18 hb);clear HB;have HO286:=n0_;have HB:=n1_;clear n0_ n1_;(try clear hb);(try clear hb2);(try clear hk);(try clear hi);(try clear ho0);obtain⟨Ao11,co11,eo11⟩:=Kd.R_slice HO286.1;subst eo11)|((with_reducible refine gate_callee (f:=29) rfl ?_);refine goesL_ (some 25) rfl rfl Try.func29 (by kernel_rfl) rfl #[.int .i64 a0,.int .i64 a1,.slice Ao11 t284.length co11] rfl qB17 ?_;(with_reducible refine(spec_CycloAtResidues.calls k a0 a1 _ _ t284 t287 t288 t291 _ ?side1 ?side2 A6.1).mono ?_);(case side1=>repeat(first|exact(Kd.R_reads' HO286.1).2.2|(with_reducible refine Kd.C_alloc ?_ _)|(with_reducible refine Kd.C_drewN ?_ _)|(with_reducible refine Kd.C_drew ?_)));(case side2=>exact(Kd.R_reads' HO286.1).2.1);rintro e w12 ⟨v289,rfl,ho0,hb⟩;refine⟨_,rfl,?_⟩;have n0_:=qAm (Kd.R_elder' qB39 (Kd.R_base ho0) hb);have n1_:=qAm (Kd.R_lower (Kd.R_new' ho0 (Kd.R_lt qB39)) (below_size qB18));have n2_:=qAm (below_step qB18 hb);clear HO286;clear HB;have HO286:=n0_;have HO290:=n1_;have HB:=n2_;clear n0_ n1_ n2_;(try clear hb);(try clear hb2);(try clear hk);(try clear hi);(try clear ho0))|((with_reducible refine gate_dst (N:=7) rfl ?_);refine box_event ?hg (N:=7) ?hd (cs:=#[.int .i64 0,.slice none 0 0]) (t:=28) ?hr ?_;(case hd=>rfl);(case hg=>rfl);(case hr=>first|(go_simp;done)|(go_simp;rfl));intro gb292 hg w13 hbox hb;have n0_:=qAm (Kd.R_below qB39 hb);have n1_:=qAm (Kd.R_below qB40 hb);have n2_:=qAm (below_step qB18 hb);have n3_:=qAm (hbox);have n4_:=qAm ((by rw [hg];exact(below_size qB18):w.heap.size≤gb292));have n5_:=qAm ((by rw [hg];exact(below_size qB18):w.heap.size≤gb292));clear HO286;clear HO290;clear HB;have HO286:=n0_;have HO290:=n1_;have HB:=n2_;have BK292:=n3_;have GW292:=n4_;have GE292:=n5_;clear n0_ n1_ n2_ n3_ n4_ n5_;clear hb hbox hg;have hcz14_0:w13.cell? ⟨gb292,0,none⟩=some (.int .i64 0):=(blk_cell BK292.1 0).trans rfl;have hcz14_1:w13.cell? ⟨gb292,1,none⟩=some (.slice none 0 0):=(blk_cell BK292.1 1).trans rfl;have hfz14_0:=blk_frozen BK292.1 0;have hfz14_1:=blk_frozen BK292.1 1;obtain⟨Ao15,co15,eo15⟩:=Kd.R_slice HO290.1;subst eo15)|((with_reducible refine gate_callee (f:=30) rfl ?_);refine goesL_ (some 29) rfl rfl Try.func30 (by kernel_rfl) rfl #[.slice A2 l2.length c2] rfl qB17 ?_;(with_reducible refine(laws_toInt64S.calls k _ _ l2 t293 _ ?side1 ?side2 A7.1).mono ?_);(case side1=>exact Kd.C_below HR2.1 qB16);(case side2=>exact HC2.1);rintro e w16 ⟨v294,rfl,ho0,hb⟩;refine⟨_,rfl,?_⟩;have n0_:=qAm (Kd.R_elder' qB3 (Kd.R_base ho0) hb);have n1_:=qAm (Kd.R_elder' qB4 (Kd.R_base ho0) hb);have n2_:=qAm (Kd.R_lower (Kd.R_new' (Kd.R_new' ho0 (Kd.R_lt qB3)) (Kd.R_lt qB4)) (below_size qB16));have n3_:=qAm (blk_below (g:=gb292) (o:=.cells #[.int .i64 t287,.slice Ao15 t288.length co15] 28 (0,0)) (by (with_reducible repeat(first|refine blk_drewN ?_ _|refine blk_drew ?_|refine blk_alloc ?_ _));refine blk_put (cs:=#[.int .i64 t287,.slice none 0 0]) ?_ 1 _ rfl;(with_reducible repeat(first|refine blk_drewN ?_ _|refine blk_drew ?_|refine blk_alloc ?_ _));refine blk_put (cs:=#[.int .i64 0,.slice none 0 0]) ?_ 0 _ rfl;(with_reducible repeat(first|refine blk_drewN ?_ _|refine blk_drew ?_|refine blk_alloc ?_ _));exact BK292.1) hb);have n4_:=qAm (below_step qB16 hb);clear HO286;clear HO290;clear BK292;clear HB;have HO286:=n0_;have HO290:=n1_;have HO295:=n2_;have BK292:=n3_;have HB:=n4_;clear n0_ n1_ n2_ n3_ n4_;(try clear hb);(try clear hb2);(try clear hk);(try clear hi);(try clear ho0);obtain⟨Ao17,co17,eo17⟩:=Kd.R_slice HO295.1;subst eo17)|((with_reducible refine gate_callee (f:=31) rfl ?_);refine goesL_ (some 34) rfl rfl Try.func31 (by kernel_rfl) rfl #[.int .i64 a0,.int .i64 a1,.slice Ao17 t293.length co17] rfl qB17 ?_;(with_reducible refine(impl_CycloAtResidues.calls k a0 a1 _ _ t293 t296 t297 t300 _ ?side1 ?side2 A8.1).mono ?_);(case side1=>repeat(first|exact(Kd.R_reads' HO295.1).2.2|(with_reducible refine Kd.C_alloc ?_ _)|(with_reducible refine Kd.C_drewN ?_ _)|(with_reducible refine Kd.C_drew ?_)));(case side2=>exact(Kd.R_reads' HO295.1).2.1);rintro e w18 ⟨v298,rfl,ho0,hb⟩;refine⟨_,rfl,?_⟩;have n0_:=qAm (Kd.R_elder' qB39 (Kd.R_base ho0) hb);have n1_:=qAm (Kd.R_elder' qB40 (Kd.R_base ho0) hb);have n2_:=qAm (Kd.R_elder' qB41 (Kd.R_base ho0) hb);have n3_:=qAm (Kd.R_lower (Kd.R_new' (Kd.R_new' (Kd.R_new' ho0 (Kd.R_lt qB39)) (Kd.R_lt qB40)) (Kd.R_lt qB41)) (below_size qB16));have n4_:=qAm (blk_below (g:=gb292) (o:=.cells #[.int .i64 t287,.slice Ao15 t288.length co15] 28 (0,0)) qB26 hb);have n5_:=qAm (below_step qB16 hb);clear HO286;clear HO290;clear HO295;clear BK292;clear HB;have HO286:=n0_;have HO290:=n1_;have HO295:=n2_;have HO299:=n3_;have BK292:=n4_;have HB:=n5_;clear n0_ n1_ n2_ n3_ n4_ n5_;(try clear hb);(try clear hb2);(try clear hk);(try clear hi);(try clear ho0))|((with_reducible refine gate_dst (N:=10) rfl ?_);refine box_event ?hg (N:=10) ?hd (cs:=#[.int .i64 0,.slice none 0 0]) (t:=28) ?hr ?_;(case hd=>rfl);(case hg=>rfl);(case hr=>first|(go_simp;done)|(go_simp;rfl));intro gb301 hg w19 hbox hb;have n0_:=qAm (Kd.R_below qB39 hb);have n1_:=qAm (Kd.R_below qB40 hb);have n2_:=qAm (Kd.R_below qB41 hb);have n3_:=qAm (Kd.R_below (by (with_reducible repeat(first|apply Kd.R_alloc|apply Kd.R_drewN|apply Kd.R_drew));exact HO299.1) hb);have n4_:=qAm (blk_below (g:=gb292) (o:=.cells #[.int .i64 t287,.slice Ao15 t288.length co15] 28 (0,0)) qB26 hb);have n5_:=qAm (below_step qB16 hb);have n6_:=qAm (hbox);have n7_:=qAm ((by rw [hg];exact(below_size qB16):w.heap.size≤gb301));have n8_:=qAm ((by rw [hg];exact(below_size qB16):w.heap.size≤gb301));have n9_:=qAm ((by rw [hg];exact Nat.ne_of_lt (blk_lt (g:=gb292) (o:=.cells #[.int .i64 t287,.slice Ao15 t288.length co15] 28 (0,0)) qB26):gb292≠gb301));have n10_:=qAm ((by rw [hg];exact Nat.ne_of_gt (blk_lt (g:=gb292) (o:=.cells #[.int .i64 t287,.slice Ao15 t288.length co15] 28 (0,0)) qB26):gb301≠gb292));clear HO286;clear HO290;clear HO295;clear HO299;clear BK292;clear HB;have HO286:=n0_;have HO290:=n1_;have HO295:=n2_;have HO299:=n3_;have BK292:=n4_;have HB:=n5_;have BK301:=n6_;have GW301:=n7_;have GE301:=n8_;have NB292_301:=n9_;have NB301_292:=n10_;clear n0_ n1_ n2_ n3_ n4_ n5_ n6_ n7_ n8_ n9_ n10_;clear hb hbox hg;have hnb20:=NB301_292.1;have hnc20:=NB292_301.1;have hcz21_0:w19.cell? ⟨gb301,0,none⟩=some (.int .i64 0):=(blk_cell BK301.1 0).trans rfl;have hcz21_1:w19.cell? ⟨gb301,1,none⟩=some (.slice none 0 0):=(blk_cell BK301.1 1).trans rfl;have hfz21_0:=blk_frozen BK301.1 0;have hfz21_1:=blk_frozen BK301.1 1;obtain⟨Ao22,co22,eo22⟩:=Kd.R_slice HO299.1;subst eo22))
    (try simp only [Act.put,qSa,qSb,qSc])
    go_cut [45] (fun v45 wc=>∃(kq:Nat) (x45_8:Bool),v45=.bool x45_8∧Aside0 (laws_FnExactCycloAtResidues.j0 kq a0 a1 l2 t291 t293 t300 x45_8 t287 t288 t296 t297=some true)∧Aside0 (kq≤k)∧Aside0 (Kd.R (Kd.int .i64) 2 wc w.heap.size (fun k_=>some k_≠((.slice Ao15 t288.length co15):Value).ownBlock∧some k_≠((.slice Ao22 t297.length co22):Value).ownBlock) (.slice Ao17 t293.length co17) t293)∧Aside0 (Kd.R (Kd.int .i64) 2 wc w.heap.size (fun k_=>some k_≠((.slice Ao17 t293.length co17):Value).ownBlock∧some k_≠((.slice Ao22 t297.length co22):Value).ownBlock) (.slice Ao15 t288.length co15) t288)∧Aside0 (Kd.R (Kd.int .i64) 2 wc w.heap.size (fun k_=>some k_≠((.slice Ao17 t293.length co17):Value).ownBlock∧some k_≠((.slice Ao15 t288.length co15):Value).ownBlock) (.slice Ao22 t297.length co22) t297)∧Aside0 (wc.heap[gb292]? =some (.cells #[.int .i64 t287,(.slice Ao15 t288.length co15)] 28 (0,0)))∧Aside0 (wc.heap[gb301]? =some (.cells #[.int .i64 t296,(.slice Ao22 t297.length co22)] 28 (0,0)))∧Aside0 (Below w.heap.size w wc))
    case first=>
      have H:=HC9.1;clear HC9;replace H:=qOb H;obtain⟨t302,A230,H⟩:=H;replace H:(if t302=true then (laws_FnExactCycloAtResidues.j0 k a0 a1 l2 t291 t293 t300 (t300 !=t291) t287 t288 t296 t297) else (laws_FnExactCycloAtResidues.j0 k a0 a1 l2 t291 t293 t300 true t287 t288 t296 t297))=some true:=H;have A23:=qAm A230;clear A230
      by_cases c24:t302=true
      · subst c24
        have H1:(laws_FnExactCycloAtResidues.j0 k a0 a1 l2 t291 t293 t300 (t300 !=t291) t287 t288 t296 t297)=some true:=by rw [if_pos rfl] at H;exact H
        clear H;have H:=H1;clear H1;have H':=qAm H;clear H;have hnb25:=NB301_292.1;have hnc25:=NB292_301.1;have hcz26_0:w19.cell? ⟨gb301,0,none⟩=some (.int .i64 0):=(blk_cell BK301.1 0).trans rfl;have hcz26_1:w19.cell? ⟨gb301,1,none⟩=some (.slice none 0 0):=(blk_cell BK301.1 1).trans rfl;have hfz26_0:=blk_frozen BK301.1 0;have hfz26_1:=blk_frozen BK301.1 1;have hcz27_0:w19.cell? ⟨gb292,0,none⟩=some (.int .i64 t287):=(blk_cell BK292.1 0).trans rfl;have hcz27_1:w19.cell? ⟨gb292,1,none⟩=some (.slice Ao15 t288.length co15):=(blk_cell BK292.1 1).trans rfl;have hfz27_0:=blk_frozen BK292.1 0;have hfz27_1:=blk_frozen BK292.1 1;go_wp2_with (first|((with_reducible refine gate_callee (f:=14) rfl ?_);refine goesL_ (some 39) rfl rfl Try.func14 (by kernel_rfl) rfl #[.agg #[.int .i64 t296,.slice Ao22 t297.length co22],.agg #[.int .i64 t287,.slice Ao15 t288.length co15]] rfl qB17 ?_;(with_reducible refine(laws_eqCyclo.calls k t296 _ _ t297 t287 _ _ t288 true _ ?side1 ?side2 ?side3 ?side4 A23.1).mono ?_);(case side1=>refine(Kd.R_reads' (e:=2) (base:=w.heap.size) (ok:=fun k_=>(((True∧some k_≠(.slice Ao11 t284.length co11:Value).ownBlock)∧some k_≠(.slice Ao15 t288.length co15:Value).ownBlock)∧some k_≠(.slice Ao17 t293.length co17:Value).ownBlock)) (n:=t297.length) (c:=co22) ?_).2.2;exact qB5);(case side2=>exact(Kd.R_reads' HO299.1).2.1);(case side3=>refine(Kd.R_reads' (e:=2) (base:=w.heap.size) (ok:=fun k_=>(((True∧some k_≠(.slice Ao11 t284.length co11:Value).ownBlock)∧some k_≠(.slice Ao17 t293.length co17:Value).ownBlock)∧some k_≠(.slice Ao22 t297.length co22:Value).ownBlock)) (n:=t288.length) (c:=co15) ?_).2.2;exact qB6);(case side4=>exact(Kd.R_reads' HO290.1).2.1);rintro e w28 ⟨rfl,hb⟩;refine⟨_,rfl,?_⟩;have n0_:=qAm (Kd.R_below (by (with_reducible repeat(first|apply Kd.R_alloc|apply Kd.R_drewN|apply Kd.R_drew));exact(Kd.R_mono (Kd.R_far (p:=⟨gb301,1,none⟩) (Kd.R_far (p:=⟨gb301,0,none⟩) (Kd.R_types HO286.1 BK301.1 (by decide)) (fun _ hk=>hk.2) (.int .i64 t296)) (fun _ hk=>hk.2) (.slice Ao22 t297.length co22)) (fun _ h_=>h_.1))) hb);have n1_:=qAm (Kd.R_below qB6 hb);have n2_:=qAm (Kd.R_below (by (with_reducible repeat(first|apply Kd.R_alloc|apply Kd.R_drewN|apply Kd.R_drew));exact(Kd.R_mono (Kd.R_far (p:=⟨gb301,1,none⟩) (Kd.R_far (p:=⟨gb301,0,none⟩) (Kd.R_types HO295.1 BK301.1 (by decide)) (fun _ hk=>hk.2) (.int .i64 t296)) (fun _ hk=>hk.2) (.slice Ao22 t297.length co22)) (fun _ h_=>h_.1))) hb);have n3_:=qAm (Kd.R_below qB5 hb);have n4_:=qAm (blk_below (g:=gb292) (o:=.cells #[.int .i64 t287,.slice Ao15 t288.length co15] 28 (0,0)) (by (with_reducible repeat(first|refine blk_drewN ?_ _|refine blk_drew ?_|refine blk_alloc ?_ _));refine blk_far ?_ NB292_301.1 _;(with_reducible repeat(first|refine blk_drewN ?_ _|refine blk_drew ?_|refine blk_alloc ?_ _));refine blk_far ?_ NB292_301.1 _;(with_reducible repeat(first|refine blk_drewN ?_ _|refine blk_drew ?_|refine blk_alloc ?_ _));exact BK292.1) hb);have n5_:=qAm (blk_below (g:=gb301) (o:=.cells #[.int .i64 t296,.slice Ao22 t297.length co22] 28 (0,0)) (by (with_reducible repeat(first|refine blk_drewN ?_ _|refine blk_drew ?_|refine blk_alloc ?_ _));refine blk_put (cs:=#[.int .i64 t296,.slice none 0 0]) ?_ 1 _ rfl;(with_reducible repeat(first|refine blk_drewN ?_ _|refine blk_drew ?_|refine blk_alloc ?_ _));refine blk_put (cs:=#[.int .i64 0,.slice none 0 0]) ?_ 0 _ rfl;(with_reducible repeat(first|refine blk_drewN ?_ _|refine blk_drew ?_|refine blk_alloc ?_ _));exact BK301.1) hb);have n6_:=qAm (below_step qB11 hb);clear HO286;clear HO290;clear HO295;clear HO299;clear BK292;clear BK301;clear HB;have HO286:=n0_;have HO290:=n1_;have HO295:=n2_;have HO299:=n3_;have BK292:=n4_;have BK301:=n5_;have HB:=n6_;clear n0_ n1_ n2_ n3_ n4_ n5_ n6_;(try clear hb);(try clear hb2);(try clear hk);(try clear hi)));go_meet
        case rel=>exact⟨_,((t300 !=t291)),qB52,H',⟨by first|omega|exact Nat.le_refl _⟩,⟨by (with_reducible repeat(first|apply Kd.R_alloc|apply Kd.R_drewN|apply Kd.R_drew));exact Kd.R_mono HO295.1 (fun _ hk=>⟨hk.1.2,hk.2⟩)⟩,⟨by (with_reducible repeat(first|apply Kd.R_alloc|apply Kd.R_drewN|apply Kd.R_drew));exact Kd.R_mono HO290.1 (fun _ hk=>⟨hk.1.2,hk.2⟩)⟩,⟨by (with_reducible repeat(first|apply Kd.R_alloc|apply Kd.R_drewN|apply Kd.R_drew));exact Kd.R_mono HO299.1 (fun _ hk=>⟨hk.2,hk.1.2⟩)⟩,⟨by (with_reducible repeat(first|refine blk_drewN ?_ _|refine blk_drew ?_|refine blk_alloc ?_ _));exact BK292.1⟩,⟨by (with_reducible repeat(first|refine blk_drewN ?_ _|refine blk_drew ?_|refine blk_alloc ?_ _));exact BK301.1⟩,⟨by repeat(first|(with_reducible first|exact HB.1|apply below_alloc|apply pw_below_drewN|apply below_drew1|refine below_set ?_ GE292.1|refine below_set ?_ GE301.1)|exact HB.1)⟩⟩
      · replace c24:=Bool.eq_false_iff.mpr c24
        subst c24;have H1:(laws_FnExactCycloAtResidues.j0 k a0 a1 l2 t291 t293 t300 true t287 t288 t296 t297)=some true:=by rw [if_neg (show ¬(false=true) by decide)] at H;exact H
        exact(laws_FnExactCycloAtResidues.j0_no _ _ _ _ _ _ _ _ _ _ _ H1).elim
    case rest=>
      clear HC9;try clear c1
      try clear c2
      try clear p2
      try clear c3
      try clear c4
      try clear c4b0
      try clear c4b1
      try clear c7
      try clear c14
      try clear c20
      try clear c24
      try clear c25
      try clear c29
      try clear c30
      try clear c31
      try clear hcz14_0
      try clear hcz14_1
      try clear hcz21_0
      try clear hcz21_1
      try clear hcz26_0
      try clear hcz26_1
      try clear hcz27_0
      try clear hcz27_1
      try clear hcz30_0
      try clear hcz30_1
      try clear hcz31_0
      try clear hcz31_1
      try clear hfz14_0
      try clear hfz14_1
      try clear hfz21_0
      try clear hfz21_1
      try clear hfz26_0
      try clear hfz26_1
      try clear hfz27_0
      try clear hfz27_1
      try clear hfz30_0
      try clear hfz30_1
      try clear hfz31_0
      try clear hfz31_1
      obtain⟨kq,x45_8,rfl,HA,HJ8,HO_9,HO_293001,HO_302001,BK292,BK301,HB⟩:=hcut;cases kq with
      |zero=>exact absurd HA.1 (by simp [laws_FnExactCycloAtResidues.j0])
      |succ kj8=>
        have H:=HA.1;clear HA;simp only [laws_FnExactCycloAtResidues.j0] at H
        by_cases c33:x45_8=true
        · subst c33
          have H1:(some false)=some true:=by rw [if_pos rfl] at H;exact H
          cases H1
        · replace c33:=Bool.eq_false_iff.mpr c33
          subst c33;have H1:((laws_toInt64S.f kj8 l2).bind fun t303=>((laws_eqInt64S.f kj8 t293 t303).bind fun t306=>(if t306=true then ((laws_markInt64S.f kj8 t293 1).bind fun bt307=>(if bt307.1<0 then (laws_FnExactCycloAtResidues.j1 kj8 a0 a1 l2 t291 true t287 t288 t296 t297) else ((laws_eqCyclo.f kj8 t296 t297 t287 t288).bind fun t309=>(if t309=true then (laws_FnExactCycloAtResidues.j1 kj8 a0 a1 l2 t291 (t300 !=t291) t287 t288 t296 t297) else (laws_FnExactCycloAtResidues.j1 kj8 a0 a1 l2 t291 true t287 t288 t296 t297))))) else (some false))))=some true:=by rw [if_neg (show ¬(false=true) by decide)] at H;exact H
          clear H;have H:=H1;clear H1;replace H:=qOb H;obtain⟨t303,A340,H⟩:=H;replace H:((laws_eqInt64S.f kj8 t293 t303).bind fun t306=>(if t306=true then ((laws_markInt64S.f kj8 t293 1).bind fun bt307=>(if bt307.1<0 then (laws_FnExactCycloAtResidues.j1 kj8 a0 a1 l2 t291 true t287 t288 t296 t297) else ((laws_eqCyclo.f kj8 t296 t297 t287 t288).bind fun t309=>(if t309=true then (laws_FnExactCycloAtResidues.j1 kj8 a0 a1 l2 t291 (t300 !=t291) t287 t288 t296 t297) else (laws_FnExactCycloAtResidues.j1 kj8 a0 a1 l2 t291 true t287 t288 t296 t297))))) else (some false)))=some true:=H;have A34:=qAm A340;clear A340;replace H:=qOb H;obtain⟨t306,A350,H⟩:=H;replace H:(if t306=true then ((laws_markInt64S.f kj8 t293 1).bind fun bt307=>(if bt307.1<0 then (laws_FnExactCycloAtResidues.j1 kj8 a0 a1 l2 t291 true t287 t288 t296 t297) else ((laws_eqCyclo.f kj8 t296 t297 t287 t288).bind fun t309=>(if t309=true then (laws_FnExactCycloAtResidues.j1 kj8 a0 a1 l2 t291 (t300 !=t291) t287 t288 t296 t297) else (laws_FnExactCycloAtResidues.j1 kj8 a0 a1 l2 t291 true t287 t288 t296 t297))))) else (some false))=some true:=H;have A35:=qAm A350;clear A350
          by_cases c36:t306=true
          · subst c36
            have H1:((laws_markInt64S.f kj8 t293 1).bind fun bt307=>(if bt307.1<0 then (laws_FnExactCycloAtResidues.j1 kj8 a0 a1 l2 t291 true t287 t288 t296 t297) else ((laws_eqCyclo.f kj8 t296 t297 t287 t288).bind fun t309=>(if t309=true then (laws_FnExactCycloAtResidues.j1 kj8 a0 a1 l2 t291 (t300 !=t291) t287 t288 t296 t297) else (laws_FnExactCycloAtResidues.j1 kj8 a0 a1 l2 t291 true t287 t288 t296 t297)))))=some true:=by rw [if_pos rfl] at H;exact H
            clear H;have H:=H1;clear H1;replace H:=qOb H;obtain⟨⟨t307,t308⟩,A370,H⟩:=H;replace H:(if t307<0 then (laws_FnExactCycloAtResidues.j1 kj8 a0 a1 l2 t291 true t287 t288 t296 t297) else ((laws_eqCyclo.f kj8 t296 t297 t287 t288).bind fun t309=>(if t309=true then (laws_FnExactCycloAtResidues.j1 kj8 a0 a1 l2 t291 (t300 !=t291) t287 t288 t296 t297) else (laws_FnExactCycloAtResidues.j1 kj8 a0 a1 l2 t291 true t287 t288 t296 t297))))=some true:=H;have A37:=qAm A370;clear A370;have HC38:=qAm H;clear H;go_upto_region 12 with (first|((with_reducible refine gate_callee (f:=30) rfl ?_);refine goesL_ (some 48) rfl rfl Try.func30 (by kernel_rfl) rfl #[.slice A2 l2.length c2] rfl qB17 ?_;(with_reducible refine(laws_toInt64S.calls kj8 _ _ l2 t303 _ ?side1 ?side2 A34.1).mono ?_);(case side1=>repeat(first|exact(Kd.C_below HR2.1 HB.1)|(with_reducible refine Kd.C_alloc ?_ _)|(with_reducible refine Kd.C_drewN ?_ _)|(with_reducible refine Kd.C_drew ?_)));(case side2=>exact HC2.1);rintro e w39 ⟨v304,rfl,ho0,hb⟩;refine⟨_,rfl,?_⟩;have n0_:=qAm (Kd.R_elder' qB45 (Kd.R_base ho0) hb);have n1_:=qAm (Kd.R_elder' qB29 (Kd.R_base ho0) hb);have n2_:=qAm (Kd.R_elder' qB30 (Kd.R_base ho0) hb);have n3_:=qAm (Kd.R_lower (Kd.R_new' (Kd.R_new' (Kd.R_new' ho0 (Kd.R_lt qB45)) (Kd.R_lt qB29)) (Kd.R_lt qB30)) (below_size qB11));have n4_:=qAm (blk_below (g:=gb292) (o:=.cells #[.int .i64 t287,.slice Ao15 t288.length co15] 28 (0,0)) qB26 hb);have n5_:=qAm (blk_below (g:=gb301) (o:=.cells #[.int .i64 t296,.slice Ao22 t297.length co22] 28 (0,0)) qB27 hb);have n6_:=qAm (below_step qB11 hb);clear HO_9;clear HO_293001;clear HO_302001;clear BK292;clear BK301;clear HB;have HO_9:=n0_;have HO_293001:=n1_;have HO_302001:=n2_;have HO305:=n3_;have BK292:=n4_;have BK301:=n5_;have HB:=n6_;clear n0_ n1_ n2_ n3_ n4_ n5_ n6_;(try clear hb);(try clear hb2);(try clear hk);(try clear hi);(try clear ho0);obtain⟨Ao40,co40,eo40⟩:=Kd.R_slice HO305.1;subst eo40)|((with_reducible refine gate_callee (f:=13) rfl ?_);refine goesL_ (some 49) rfl rfl Try.func13 (by kernel_rfl) rfl #[.slice Ao17 t293.length co17,.slice Ao40 t303.length co40] rfl qB17 ?_;(with_reducible refine(laws_eqInt64S.calls kj8 _ _ t293 _ _ t303 true _ ?side1 ?side2 ?side3 ?side4 A35.1).mono ?_);(case side1=>repeat(first|exact(Kd.R_reads' HO_9.1).2.2|(with_reducible refine Kd.C_alloc ?_ _)|(with_reducible refine Kd.C_drewN ?_ _)|(with_reducible refine Kd.C_drew ?_)));(case side2=>exact(Kd.R_reads' HO_9.1).2.1);(case side3=>repeat(first|exact(Kd.R_reads' HO305.1).2.2|(with_reducible refine Kd.C_alloc ?_ _)|(with_reducible refine Kd.C_drewN ?_ _)|(with_reducible refine Kd.C_drew ?_)));(case side4=>exact(Kd.R_reads' HO305.1).2.1);rintro e w' ⟨rfl,⟨nd,rfl⟩⟩;refine⟨_,rfl,?_⟩)|((with_reducible refine gate_callee (f:=16) rfl ?_);refine goesL_ (some 53) rfl rfl Try.func16 (by kernel_rfl) rfl #[.slice Ao17 t293.length co17,.int .i64 1] rfl qB17 ?_;(with_reducible refine(laws_markInt64S.calls kj8 (fun k_=>some k_=(.slice Ao17 t293.length co17:Value).ownBlock) (.slice Ao17 t293.length co17) t293 1 t307 t308 w _ ?side1 ?side2 A37.1).mono ?_);(case side1=>repeat(first|(with_reducible first|exact HB.1|apply below_alloc|apply pw_below_drewN|apply below_drew1|refine below_set ?_ GE292.1|refine below_set ?_ GE301.1)|exact HB.1));(case side2=>exact Kd.R_tight rfl HO_9.1);rintro e w41 ⟨rfl,hy0,hb,hkp⟩;refine⟨_,rfl,?_⟩;have n0_:=qAm (Kd.R_reok rfl hy0 (fun k_ e_=>HO_9.1.1 k_ e_));have n1_:=qAm (Kd.R_mono (ok':=fun k_=>some k_≠(.slice Ao17 t293.length co17:Value).ownBlock∧some k_≠(.slice Ao22 t297.length co22:Value).ownBlock∧some k_≠(.slice Ao40 t303.length co40:Value).ownBlock) (Kd.R_keptB (HO_293001.1) hkp (fun k_ hk_ hs_=>(hk_.1.1) hs_)) (fun k_ hk_=>⟨hk_.1.1.1,hk_.1.1.2,hk_.1.2⟩));have n2_:=qAm (Kd.R_mono (ok':=fun k_=>some k_≠(.slice Ao17 t293.length co17:Value).ownBlock∧some k_≠(.slice Ao15 t288.length co15:Value).ownBlock∧some k_≠(.slice Ao40 t303.length co40:Value).ownBlock) (Kd.R_keptB (HO_302001.1) hkp (fun k_ hk_ hs_=>(hk_.1.1) hs_)) (fun k_ hk_=>⟨hk_.1.1.1,hk_.1.1.2,hk_.1.2⟩));have n3_:=qAm (blk_kept qB26 hkp (fun hs_=>(fun e_=>(Kd.R_ne HO_9.1 BK292.1 (by decide)) e_) hs_));have n4_:=qAm (blk_kept qB27 hkp (fun hs_=>(fun e_=>(Kd.R_ne HO_9.1 BK301.1 (by decide)) e_) hs_));have n5_:=qAm (Kd.R_mono (ok':=fun k_=>some k_≠(.slice Ao17 t293.length co17:Value).ownBlock∧some k_≠(.slice Ao15 t288.length co15:Value).ownBlock∧some k_≠(.slice Ao22 t297.length co22:Value).ownBlock) (Kd.R_keptB (HO305.1) hkp (fun k_ hk_ hs_=>(hk_.1.1.2) hs_)) (fun k_ hk_=>⟨hk_.1.1.1.2,hk_.1.1.2,hk_.1.2⟩));have n6_:=qAm (hb);clear HO_9;clear HO_293001;clear HO_302001;clear BK292;clear BK301;clear HO305;clear HB;have HO_9:=n0_;have HO_293001:=n1_;have HO_302001:=n2_;have BK292:=n3_;have BK301:=n4_;have HO305:=n5_;have HB:=n6_;clear n0_ n1_ n2_ n3_ n4_ n5_ n6_;(try clear hb);(try clear hkp);(try clear hy0)))
            (try simp only [Act.put,qSa,qSb,qSc])
            go_cut [66] (fun v66 wc=>∃(kq:Nat) (x66_37:Bool),v66=.bool x66_37∧Aside0 (laws_FnExactCycloAtResidues.j1 kq a0 a1 l2 t291 x66_37 t287 t288 t296 t297=some true)∧Aside0 (kq≤kj8)∧Aside0 (Kd.R (Kd.int .i64) 2 wc w.heap.size (fun k_=>some k_≠((.slice Ao22 t297.length co22):Value).ownBlock) (.slice Ao15 t288.length co15) t288)∧Aside0 (Kd.R (Kd.int .i64) 2 wc w.heap.size (fun k_=>some k_≠((.slice Ao15 t288.length co15):Value).ownBlock) (.slice Ao22 t297.length co22) t297)∧Aside0 (wc.heap[gb292]? =some (.cells #[.int .i64 t287,(.slice Ao15 t288.length co15)] 28 (0,0)))∧Aside0 (wc.heap[gb301]? =some (.cells #[.int .i64 t296,(.slice Ao22 t297.length co22)] 28 (0,0)))∧Aside0 (Below w.heap.size w wc))
            case first=>
              have H:=HC38.1;clear HC38
              by_cases c42:t307<0
              · rw [if_pos c42] at H
                exact(laws_FnExactCycloAtResidues.j1_no _ _ _ _ _ _ _ _ _ H).elim
              · rw [if_neg c42] at H
                have c42b0:decide (t307<0)=false:=decide_eq_false c42;clear c42
                (first|rw [c42b0]|(simp only [i64_w,i32_w];rw [c42b0])|skip)
                replace H:=qOb H;obtain⟨t309,A430,H⟩:=H;replace H:(if t309=true then (laws_FnExactCycloAtResidues.j1 kj8 a0 a1 l2 t291 (t300 !=t291) t287 t288 t296 t297) else (laws_FnExactCycloAtResidues.j1 kj8 a0 a1 l2 t291 true t287 t288 t296 t297))=some true:=H;have A43:=qAm A430;clear A430
                by_cases c44:t309=true
                · subst c44
                  have H1:(laws_FnExactCycloAtResidues.j1 kj8 a0 a1 l2 t291 (t300 !=t291) t287 t288 t296 t297)=some true:=by rw [if_pos rfl] at H;exact H
                  clear H;have H:=H1;clear H1;have H':=qAm H;clear H;have hnb45:=NB301_292.1;have hnc45:=NB292_301.1;have hcz46_0:w41.cell? ⟨gb301,0,none⟩=some (.int .i64 t296):=(blk_cell BK301.1 0).trans rfl;have hcz46_1:w41.cell? ⟨gb301,1,none⟩=some (.slice Ao22 t297.length co22):=(blk_cell BK301.1 1).trans rfl;have hfz46_0:=blk_frozen BK301.1 0;have hfz46_1:=blk_frozen BK301.1 1;have hcz47_0:w41.cell? ⟨gb292,0,none⟩=some (.int .i64 t287):=(blk_cell BK292.1 0).trans rfl;have hcz47_1:w41.cell? ⟨gb292,1,none⟩=some (.slice Ao15 t288.length co15):=(blk_cell BK292.1 1).trans rfl;have hfz47_0:=blk_frozen BK292.1 0;have hfz47_1:=blk_frozen BK292.1 1;go_wp2_with (first|(go_at_call 14;(with_reducible refine(laws_eqCyclo.calls kj8 t296 _ _ t297 t287 _ _ t288 true _ ?side1 ?side2 ?side3 ?side4 A43.1).mono ?_);(case side1=>repeat(first|exact(Kd.R_reads' HO_302001.1).2.2|(with_reducible refine Kd.C_alloc ?_ _)|(with_reducible refine Kd.C_drewN ?_ _)|(with_reducible refine Kd.C_drew ?_)));(case side2=>exact(Kd.R_reads' HO_302001.1).2.1);(case side3=>repeat(first|exact(Kd.R_reads' HO_293001.1).2.2|(with_reducible refine Kd.C_alloc ?_ _)|(with_reducible refine Kd.C_drewN ?_ _)|(with_reducible refine Kd.C_drew ?_)));(case side4=>exact(Kd.R_reads' HO_293001.1).2.1);rintro e w48 ⟨rfl,hb⟩;have n0_:=qAm (Kd.R_below qB45 hb);have n1_:=qAm (Kd.R_below qB29 hb);have n2_:=qAm (Kd.R_below qB30 hb);have n3_:=qAm (Kd.R_below (by (with_reducible repeat(first|apply Kd.R_alloc|apply Kd.R_drewN|apply Kd.R_drew));exact HO305.1) hb);have n4_:=qAm (blk_below (g:=gb292) (o:=.cells #[.int .i64 t287,.slice Ao15 t288.length co15] 28 (0,0)) qB26 hb);have n5_:=qAm (blk_below (g:=gb301) (o:=.cells #[.int .i64 t296,.slice Ao22 t297.length co22] 28 (0,0)) qB27 hb);have n6_:=qAm (below_step qB11 hb);clear HO_9;clear HO_293001;clear HO_302001;clear HO305;clear BK292;clear BK301;clear HB;have HO_9:=n0_;have HO_293001:=n1_;have HO_302001:=n2_;have HO305:=n3_;have BK292:=n4_;have BK301:=n5_;have HB:=n6_;clear n0_ n1_ n2_ n3_ n4_ n5_ n6_;(try clear hb);(try clear hb2);(try clear hk);(try clear hi)));go_meet
                  case rel=>exact⟨_,((t300 !=t291)),qB52,H',⟨by have:=HJ8.1;first|omega|exact Nat.le_refl _⟩,⟨by (with_reducible repeat(first|apply Kd.R_alloc|apply Kd.R_drewN|apply Kd.R_drew));exact Kd.R_mono HO_293001.1 (fun _ hk=>hk.2.1)⟩,⟨by (with_reducible repeat(first|apply Kd.R_alloc|apply Kd.R_drewN|apply Kd.R_drew));exact Kd.R_mono HO_302001.1 (fun _ hk=>hk.2.1)⟩,⟨by (with_reducible repeat(first|refine blk_drewN ?_ _|refine blk_drew ?_|refine blk_alloc ?_ _));exact BK292.1⟩,⟨by (with_reducible repeat(first|refine blk_drewN ?_ _|refine blk_drew ?_|refine blk_alloc ?_ _));exact BK301.1⟩,⟨by repeat(first|(with_reducible first|exact HB.1|apply below_alloc|apply pw_below_drewN|apply below_drew1|refine below_set ?_ GE292.1|refine below_set ?_ GE301.1)|exact HB.1)⟩⟩
                · replace c44:=Bool.eq_false_iff.mpr c44
                  subst c44;have H1:(laws_FnExactCycloAtResidues.j1 kj8 a0 a1 l2 t291 true t287 t288 t296 t297)=some true:=by rw [if_neg (show ¬(false=true) by decide)] at H;exact H
                  exact(laws_FnExactCycloAtResidues.j1_no _ _ _ _ _ _ _ _ _ H1).elim
            case rest=>
              clear HC38;try clear c1
              try clear c2
              try clear p2
              try clear c3
              try clear c4
              try clear c4b0
              try clear c4b1
              try clear c7
              try clear c13
              try clear c14
              try clear c16
              try clear c20
              try clear c24
              try clear c25
              try clear c29
              try clear c30
              try clear c31
              try clear c33
              try clear c36
              try clear c42
              try clear c42b0
              try clear c44
              try clear c45
              try clear c49
              try clear hcz14_0
              try clear hcz14_1
              try clear hcz21_0
              try clear hcz21_1
              try clear hcz26_0
              try clear hcz26_1
              try clear hcz27_0
              try clear hcz27_1
              try clear hcz30_0
              try clear hcz30_1
              try clear hcz31_0
              try clear hcz31_1
              try clear hcz46_0
              try clear hcz46_1
              try clear hcz47_0
              try clear hcz47_1
              try clear hcz50_0
              try clear hcz50_1
              try clear hcz51_0
              try clear hcz51_1
              try clear hfz14_0
              try clear hfz14_1
              try clear hfz21_0
              try clear hfz21_1
              try clear hfz26_0
              try clear hfz26_1
              try clear hfz27_0
              try clear hfz27_1
              try clear hfz30_0
              try clear hfz30_1
              try clear hfz31_0
              try clear hfz31_1
              try clear hfz46_0
              try clear hfz46_1
              try clear hfz47_0
              try clear hfz47_1
              try clear hfz50_0
              try clear hfz50_1
              try clear hfz51_0
              try clear hfz51_1
              try clear p2
              obtain⟨kq,x66_37,rfl,HA,HJ37,HO_293001,HO_302001,BK292,BK301,HB⟩:=hcut;cases kq with
              |zero=>exact absurd HA.1 (by simp [laws_FnExactCycloAtResidues.j1])
              |succ kj37=>
                have H:=HA.1;clear HA;simp only [laws_FnExactCycloAtResidues.j1] at H
                by_cases c53:x66_37=true
                · subst c53
                  have H1:(some false)=some true:=by rw [if_pos rfl] at H;exact H
                  cases H1
                · replace c53:=Bool.eq_false_iff.mpr c53
                  subst c53;have H1:((laws_markCyclo.f kj37 t296 t297 1).bind fun bt310=>((laws_heldCyclo.f kj37 t296 bt310.2 1).bind fun t312=>(if t312<0 then (some false) else (if t312=bt310.1 then ((laws_toInt64S.f kj37 l2).bind fun t313=>((impl_CycloAtResidues.f kj37 a0 a1 t313).bind fun bt316=>((laws_eqCyclo.f kj37 bt316.1 bt316.2.1 t287 t288).bind fun t322=>(if t322=true then (laws_FnExactCycloAtResidues.j2 kj37 bt310.1 (bt316.2.2 !=t291) t296 bt310.2) else (laws_FnExactCycloAtResidues.j2 kj37 bt310.1 true t296 bt310.2))))) else (some false)))))=some true:=by rw [if_neg (show ¬(false=true) by decide)] at H;exact H
                  clear H;have H:=H1;clear H1;replace H:=qOb H;obtain⟨⟨t310,t311⟩,A540,H⟩:=H;replace H:((laws_heldCyclo.f kj37 t296 t311 1).bind fun t312=>(if t312<0 then (some false) else (if t312=t310 then ((laws_toInt64S.f kj37 l2).bind fun t313=>((impl_CycloAtResidues.f kj37 a0 a1 t313).bind fun bt316=>((laws_eqCyclo.f kj37 bt316.1 bt316.2.1 t287 t288).bind fun t322=>(if t322=true then (laws_FnExactCycloAtResidues.j2 kj37 t310 (bt316.2.2 !=t291) t296 t311) else (laws_FnExactCycloAtResidues.j2 kj37 t310 true t296 t311))))) else (some false))))=some true:=H;have A54:=qAm A540;clear A540;replace H:=qOb H;obtain⟨t312,A550,H⟩:=H;replace H:(if t312<0 then (some false) else (if t312=t310 then ((laws_toInt64S.f kj37 l2).bind fun t313=>((impl_CycloAtResidues.f kj37 a0 a1 t313).bind fun bt316=>((laws_eqCyclo.f kj37 bt316.1 bt316.2.1 t287 t288).bind fun t322=>(if t322=true then (laws_FnExactCycloAtResidues.j2 kj37 t310 (bt316.2.2 !=t291) t296 t311) else (laws_FnExactCycloAtResidues.j2 kj37 t310 true t296 t311))))) else (some false)))=some true:=H;have A55:=qAm A550;clear A550
                  by_cases c56:t312<0
                  · rw [if_pos c56] at H
                    cases H
                  · rw [if_neg c56] at H
                    have c56b0:decide (t312<0)=false:=decide_eq_false c56;clear c56
                    by_cases c62:t312=t310
                    · rw [if_pos c62] at H
                      have c62b0:(t312==t310)=true:=beq_iff_eq.mpr c62;have c62b1:(t312 !=t310)=false:=bne_eq_false_iff_eq.mpr c62;clear c62;replace H:=qOb H;obtain⟨t313,A630,H⟩:=H;replace H:((impl_CycloAtResidues.f kj37 a0 a1 t313).bind fun bt316=>((laws_eqCyclo.f kj37 bt316.1 bt316.2.1 t287 t288).bind fun t322=>(if t322=true then (laws_FnExactCycloAtResidues.j2 kj37 t310 (bt316.2.2 !=t291) t296 t311) else (laws_FnExactCycloAtResidues.j2 kj37 t310 true t296 t311))))=some true:=H;have A63:=qAm A630;clear A630;replace H:=qOb H;obtain⟨⟨t316,t317,t320⟩,A640,H⟩:=H;replace H:((laws_eqCyclo.f kj37 t316 t317 t287 t288).bind fun t322=>(if t322=true then (laws_FnExactCycloAtResidues.j2 kj37 t310 (t320 !=t291) t296 t311) else (laws_FnExactCycloAtResidues.j2 kj37 t310 true t296 t311)))=some true:=H;have A64:=qAm A640;clear A640;have HC65:=qAm H;clear H;have hnb66:=NB301_292.1;have hnc66:=NB292_301.1;have hcz67_0:wc.cell? ⟨gb301,0,none⟩=some (.int .i64 t296):=(blk_cell BK301.1 0).trans rfl;have hcz67_1:wc.cell? ⟨gb301,1,none⟩=some (.slice Ao22 t297.length co22):=(blk_cell BK301.1 1).trans rfl;have hfz67_0:=blk_frozen BK301.1 0;have hfz67_1:=blk_frozen BK301.1 1;go_upto_region 23 with (first|((with_reducible refine gate_callee (f:=15) rfl ?_);refine goesL_ (some 69) rfl rfl Try.func15 (by kernel_rfl) rfl #[.agg #[.int .i64 t296,.slice Ao22 t297.length co22],.int .i64 1] rfl qB17 ?_;(with_reducible refine(laws_markCyclo.calls kj37 t296 (fun k_=>some k_=(.slice Ao22 t297.length co22:Value).ownBlock) (.slice Ao22 t297.length co22) t297 1 t310 t311 w _ ?side1 ?side2 A54.1).mono ?_);(case side1=>repeat(first|(with_reducible first|exact HB.1|apply below_alloc|apply pw_below_drewN|apply below_drew1|refine below_set ?_ GE292.1|refine below_set ?_ GE301.1)|exact HB.1));(case side2=>exact Kd.R_tight rfl HO_302001.1);rintro e w68 ⟨rfl,hy0,hb,hkp⟩;refine⟨_,rfl,?_⟩;have n0_:=qAm (Kd.R_mono (ok':=fun k_=>some k_≠(.slice Ao22 t297.length co22:Value).ownBlock) (Kd.R_keptB (HO_293001.1) hkp (fun k_ hk_ hs_=>(hk_) hs_)) (fun k_ hk_=>hk_.1));have n1_:=qAm (Kd.R_reok rfl hy0 (fun k_ e_=>HO_302001.1.1 k_ e_));have n2_:=qAm (blk_kept qB26 hkp (fun hs_=>(fun e_=>(Kd.R_ne HO_302001.1 BK292.1 (by decide)) e_) hs_));have n3_:=qAm (blk_kept qB27 hkp (fun hs_=>(fun e_=>(Kd.R_ne HO_302001.1 BK301.1 (by decide)) e_) hs_));have n4_:=qAm (hb);clear HO_293001;clear HO_302001;clear BK292;clear BK301;clear HB;have HO_293001:=n0_;have HO_302001:=n1_;have BK292:=n2_;have BK301:=n3_;have HB:=n4_;clear n0_ n1_ n2_ n3_ n4_;(try clear hb);(try clear hkp);(try clear hy0);have hcz69_0:w68.cell? ⟨gb301,0,none⟩=some (.int .i64 t296):=(blk_cell BK301.1 0).trans rfl;have hcz69_1:w68.cell? ⟨gb301,1,none⟩=some (.slice Ao22 t297.length co22):=(blk_cell BK301.1 1).trans rfl;have hfz69_0:=blk_frozen BK301.1 0;have hfz69_1:=blk_frozen BK301.1 1)|((with_reducible refine gate_callee (f:=26) rfl ?_);refine goesL_ (some 72) rfl rfl Try.func26 (by kernel_rfl) rfl #[.agg #[.int .i64 t296,.slice Ao22 t311.length co22],.int .i64 1] rfl (by (try simp only [List.map_toArray,List.map_cons,List.map_nil]);first|done|(rw [show t311.length=t297.length from (Kd.R_reads' HO_302001.1).1.symm] <;> rfl)|rfl|(simp only [List.length_drop,List.length_take];rfl)) ?_;(with_reducible refine(laws_heldCyclo.calls kj37 t296 _ _ t311 1 t312 _ ?side1 ?side2 A55.1).mono ?_);(case side1=>repeat(first|exact(Kd.R_reads' HO_302001.1).2.2|(with_reducible refine Kd.C_alloc ?_ _)|(with_reducible refine Kd.C_drewN ?_ _)|(with_reducible refine Kd.C_drew ?_)));(case side2=>rw [show t311.length=t297.length from (Kd.R_reads' HO_302001.1).1.symm];exact(Kd.R_reads' HO_302001.1).2.1);rintro e w70 ⟨rfl,hb⟩;refine⟨_,rfl,?_⟩;have n0_:=qAm (Kd.R_below qB29 hb);have n1_:=qAm (Kd.R_below qB30 hb);have n2_:=qAm (blk_below (g:=gb292) (o:=.cells #[.int .i64 t287,.slice Ao15 t288.length co15] 28 (0,0)) qB26 hb);have n3_:=qAm (blk_below (g:=gb301) (o:=.cells #[.int .i64 t296,.slice Ao22 t297.length co22] 28 (0,0)) qB27 hb);have n4_:=qAm (below_step qB11 hb);clear HO_293001;clear HO_302001;clear BK292;clear BK301;clear HB;have HO_293001:=n0_;have HO_302001:=n1_;have BK292:=n2_;have BK301:=n3_;have HB:=n4_;clear n0_ n1_ n2_ n3_ n4_;(try clear hb);(try clear hb2);(try clear hk);(try clear hi))|((with_reducible refine gate_callee (f:=30) rfl ?_);refine goesL_ (some 82) rfl rfl Try.func30 (by kernel_rfl) rfl #[.slice A2 l2.length c2] rfl qB17 ?_;(with_reducible refine(laws_toInt64S.calls kj37 _ _ l2 t313 _ ?side1 ?side2 A63.1).mono ?_);(case side1=>repeat(first|exact(Kd.C_below HR2.1 HB.1)|(with_reducible refine Kd.C_alloc ?_ _)|(with_reducible refine Kd.C_drewN ?_ _)|(with_reducible refine Kd.C_drew ?_)));(case side2=>exact HC2.1);rintro e w71 ⟨v314,rfl,ho0,hb⟩;refine⟨_,rfl,?_⟩;have n0_:=qAm (Kd.R_elder' qB29 (Kd.R_base ho0) hb);have n1_:=qAm (Kd.R_elder' qB30 (Kd.R_base ho0) hb);have n2_:=qAm (Kd.R_lower (Kd.R_new' (Kd.R_new' ho0 (Kd.R_lt qB29)) (Kd.R_lt qB30)) (below_size qB11));have n3_:=qAm (blk_below (g:=gb292) (o:=.cells #[.int .i64 t287,.slice Ao15 t288.length co15] 28 (0,0)) qB26 hb);have n4_:=qAm (blk_below (g:=gb301) (o:=.cells #[.int .i64 t296,.slice Ao22 t297.length co22] 28 (0,0)) qB27 hb);have n5_:=qAm (below_step qB11 hb);clear HO_293001;clear HO_302001;clear BK292;clear BK301;clear HB;have HO_293001:=n0_;have HO_302001:=n1_;have HO315:=n2_;have BK292:=n3_;have BK301:=n4_;have HB:=n5_;clear n0_ n1_ n2_ n3_ n4_ n5_;(try clear hb);(try clear hb2);(try clear hk);(try clear hi);(try clear ho0);obtain⟨Ao72,co72,eo72⟩:=Kd.R_slice HO315.1;subst eo72)|((with_reducible refine gate_callee (f:=31) rfl ?_);refine goesL_ (some 83) rfl rfl Try.func31 (by kernel_rfl) rfl #[.int .i64 a0,.int .i64 a1,.slice Ao72 t313.length co72] rfl qB17 ?_;(with_reducible refine(impl_CycloAtResidues.calls kj37 a0 a1 _ _ t313 t316 t317 t320 _ ?side1 ?side2 A64.1).mono ?_);(case side1=>repeat(first|exact(Kd.R_reads' HO315.1).2.2|(with_reducible refine Kd.C_alloc ?_ _)|(with_reducible refine Kd.C_drewN ?_ _)|(with_reducible refine Kd.C_drew ?_)));(case side2=>exact(Kd.R_reads' HO315.1).2.1);rintro e w73 ⟨v318,rfl,ho0,hb⟩;refine⟨_,rfl,?_⟩;have n0_:=qAm (Kd.R_elder' qB29 (Kd.R_base ho0) hb);have n1_:=qAm (Kd.R_elder' qB30 (Kd.R_base ho0) hb);have n2_:=qAm (Kd.R_elder' qB42 (Kd.R_base ho0) hb);have n3_:=qAm (Kd.R_lower (Kd.R_new' (Kd.R_new' (Kd.R_new' ho0 (Kd.R_lt qB29)) (Kd.R_lt qB30)) (Kd.R_lt qB42)) (below_size qB11));have n4_:=qAm (blk_below (g:=gb292) (o:=.cells #[.int .i64 t287,.slice Ao15 t288.length co15] 28 (0,0)) qB26 hb);have n5_:=qAm (blk_below (g:=gb301) (o:=.cells #[.int .i64 t296,.slice Ao22 t297.length co22] 28 (0,0)) qB27 hb);have n6_:=qAm (below_step qB11 hb);clear HO_293001;clear HO_302001;clear HO315;clear BK292;clear BK301;clear HB;have HO_293001:=n0_;have HO_302001:=n1_;have HO315:=n2_;have HO319:=n3_;have BK292:=n4_;have BK301:=n5_;have HB:=n6_;clear n0_ n1_ n2_ n3_ n4_ n5_ n6_;(try clear hb);(try clear hb2);(try clear hk);(try clear hi);(try clear ho0))|((with_reducible refine gate_dst (N:=15) rfl ?_);refine box_event ?hg (N:=15) ?hd (cs:=#[.int .i64 0,.slice none 0 0]) (t:=28) ?hr ?_;(case hd=>rfl);(case hg=>rfl);(case hr=>first|(go_simp;done)|(go_simp;rfl));intro gb321 hg w74 hbox hb;have n0_:=qAm (Kd.R_below qB29 hb);have n1_:=qAm (Kd.R_below qB30 hb);have n2_:=qAm (Kd.R_below qB42 hb);have n3_:=qAm (Kd.R_below (by (with_reducible repeat(first|apply Kd.R_alloc|apply Kd.R_drewN|apply Kd.R_drew));exact HO319.1) hb);have n4_:=qAm (blk_below (g:=gb292) (o:=.cells #[.int .i64 t287,.slice Ao15 t288.length co15] 28 (0,0)) qB26 hb);have n5_:=qAm (blk_below (g:=gb301) (o:=.cells #[.int .i64 t296,.slice Ao22 t297.length co22] 28 (0,0)) qB27 hb);have n6_:=qAm (below_step qB11 hb);have n7_:=qAm (hbox);have n8_:=qAm ((by rw [hg];exact(below_size qB11):w.heap.size≤gb321));have n9_:=qAm ((by rw [hg];exact(below_size qB11):w.heap.size≤gb321));have n10_:=qAm ((by rw [hg];exact Nat.ne_of_lt (blk_lt (g:=gb292) (o:=.cells #[.int .i64 t287,.slice Ao15 t288.length co15] 28 (0,0)) qB26):gb292≠gb321));have n11_:=qAm ((by rw [hg];exact Nat.ne_of_gt (blk_lt (g:=gb292) (o:=.cells #[.int .i64 t287,.slice Ao15 t288.length co15] 28 (0,0)) qB26):gb321≠gb292));have n12_:=qAm ((by rw [hg];exact Nat.ne_of_lt (blk_lt (g:=gb301) (o:=.cells #[.int .i64 t296,.slice Ao22 t297.length co22] 28 (0,0)) qB27):gb301≠gb321));have n13_:=qAm ((by rw [hg];exact Nat.ne_of_gt (blk_lt (g:=gb301) (o:=.cells #[.int .i64 t296,.slice Ao22 t297.length co22] 28 (0,0)) qB27):gb321≠gb301));clear HO_293001;clear HO_302001;clear HO315;clear HO319;clear BK292;clear BK301;clear HB;have HO_293001:=n0_;have HO_302001:=n1_;have HO315:=n2_;have HO319:=n3_;have BK292:=n4_;have BK301:=n5_;have HB:=n6_;have BK321:=n7_;have GW321:=n8_;have GE321:=n9_;have NB292_321:=n10_;have NB321_292:=n11_;have NB301_321:=n12_;have NB321_301:=n13_;clear n0_ n1_ n2_ n3_ n4_ n5_ n6_ n7_ n8_ n9_ n10_ n11_ n12_ n13_;clear hb hbox hg;have hnb75:=NB321_292.1;have hnc75:=NB292_321.1;have hnb76:=NB321_301.1;have hnc76:=NB301_321.1;have hcz77_0:w74.cell? ⟨gb321,0,none⟩=some (.int .i64 0):=(blk_cell BK321.1 0).trans rfl;have hcz77_1:w74.cell? ⟨gb321,1,none⟩=some (.slice none 0 0):=(blk_cell BK321.1 1).trans rfl;have hfz77_0:=blk_frozen BK321.1 0;have hfz77_1:=blk_frozen BK321.1 1;obtain⟨Ao78,co78,eo78⟩:=Kd.R_slice HO319.1;subst eo78))
                      (try simp only [Act.put,qSa,qSb,qSc])
                      go_cut [94] (fun v94 wc=>∃(kq:Nat) (x94_64:Bool),v94=.bool x94_64∧Aside0 (laws_FnExactCycloAtResidues.j2 kq t310 x94_64 t296 t311=some true)∧Aside0 (kq≤kj37)∧Aside0 (Kd.R (Kd.int .i64) 2 wc w.heap.size (fun k_=>some k_≠((.slice Ao22 t297.length co22):Value).ownBlock∧some k_≠((.slice Ao78 t317.length co78):Value).ownBlock) (.slice Ao15 t288.length co15) t288)∧Aside0 (Kd.R (Kd.int .i64) 2 wc w.heap.size (fun k_=>some k_≠((.slice Ao15 t288.length co15):Value).ownBlock∧some k_≠((.slice Ao78 t317.length co78):Value).ownBlock) (.slice Ao22 t297.length co22) t311)∧Aside0 (Kd.R (Kd.int .i64) 2 wc w.heap.size (fun k_=>some k_≠((.slice Ao15 t288.length co15):Value).ownBlock∧some k_≠((.slice Ao22 t297.length co22):Value).ownBlock) (.slice Ao78 t317.length co78) t317)∧Aside0 (wc.heap[gb292]? =some (.cells #[.int .i64 t287,(.slice Ao15 t288.length co15)] 28 (0,0)))∧Aside0 (wc.heap[gb301]? =some (.cells #[.int .i64 t296,(.slice Ao22 t297.length co22)] 28 (0,0)))∧Aside0 (wc.heap[gb321]? =some (.cells #[.int .i64 t316,(.slice Ao78 t317.length co78)] 28 (0,0)))∧Aside0 (Below w.heap.size w wc))
                      case first=>
                        have H:=HC65.1;clear HC65;replace H:=qOb H;obtain⟨t322,A790,H⟩:=H;replace H:(if t322=true then (laws_FnExactCycloAtResidues.j2 kj37 t310 (t320 !=t291) t296 t311) else (laws_FnExactCycloAtResidues.j2 kj37 t310 true t296 t311))=some true:=H;have A79:=qAm A790;clear A790
                        by_cases c80:t322=true
                        · subst c80
                          have H1:(laws_FnExactCycloAtResidues.j2 kj37 t310 (t320 !=t291) t296 t311)=some true:=by rw [if_pos rfl] at H;exact H
                          clear H;have H:=H1;clear H1;have H':=qAm H;clear H;have hnb81:=NB321_292.1;have hnc81:=NB292_321.1;have hnb82:=NB321_301.1;have hnc82:=NB301_321.1;have hcz83_0:w74.cell? ⟨gb321,0,none⟩=some (.int .i64 0):=(blk_cell BK321.1 0).trans rfl;have hcz83_1:w74.cell? ⟨gb321,1,none⟩=some (.slice none 0 0):=(blk_cell BK321.1 1).trans rfl;have hfz83_0:=blk_frozen BK321.1 0;have hfz83_1:=blk_frozen BK321.1 1;have hnb84:=NB292_301.1;have hnc84:=NB301_292.1;have hcz85_0:w74.cell? ⟨gb292,0,none⟩=some (.int .i64 t287):=(blk_cell BK292.1 0).trans rfl;have hcz85_1:w74.cell? ⟨gb292,1,none⟩=some (.slice Ao15 t288.length co15):=(blk_cell BK292.1 1).trans rfl;have hfz85_0:=blk_frozen BK292.1 0;have hfz85_1:=blk_frozen BK292.1 1;go_wp2_with (first|((with_reducible refine gate_callee (f:=14) rfl ?_);refine goesL_ (some 88) rfl rfl Try.func14 (by kernel_rfl) rfl #[.agg #[.int .i64 t316,.slice Ao78 t317.length co78],.agg #[.int .i64 t287,.slice Ao15 t288.length co15]] rfl qB17 ?_;(with_reducible refine(laws_eqCyclo.calls kj37 t316 _ _ t317 t287 _ _ t288 true _ ?side1 ?side2 ?side3 ?side4 A79.1).mono ?_);(case side1=>refine(Kd.R_reads' (e:=2) (base:=w.heap.size) (ok:=fun k_=>(((True∧some k_≠(.slice Ao15 t288.length co15:Value).ownBlock)∧some k_≠(.slice Ao22 t297.length co22:Value).ownBlock)∧some k_≠(.slice Ao72 t313.length co72:Value).ownBlock)) (n:=t317.length) (c:=co78) ?_).2.2;exact qB7);(case side2=>exact(Kd.R_reads' HO319.1).2.1);(case side3=>refine(Kd.R_reads' (e:=2) (base:=w.heap.size) (ok:=fun k_=>((some k_≠(.slice Ao22 t297.length co22:Value).ownBlock∧some k_≠(.slice Ao72 t313.length co72:Value).ownBlock)∧some k_≠(.slice Ao78 t317.length co78:Value).ownBlock)) (n:=t288.length) (c:=co15) ?_).2.2;exact qB2);(case side4=>exact(Kd.R_reads' HO_293001.1).2.1);rintro e w86 ⟨rfl,hb⟩;refine⟨_,rfl,?_⟩;have n0_:=qAm (Kd.R_below qB2 hb);have n1_:=qAm (Kd.R_below (by (with_reducible repeat(first|apply Kd.R_alloc|apply Kd.R_drewN|apply Kd.R_drew));exact(Kd.R_mono (Kd.R_far (p:=⟨gb321,1,none⟩) (Kd.R_far (p:=⟨gb321,0,none⟩) (Kd.R_types HO_302001.1 BK321.1 (by decide)) (fun _ hk=>hk.2) (.int .i64 t316)) (fun _ hk=>hk.2) (.slice Ao78 t317.length co78)) (fun _ h_=>h_.1))) hb);have n2_:=qAm (Kd.R_below (by (with_reducible repeat(first|apply Kd.R_alloc|apply Kd.R_drewN|apply Kd.R_drew));exact(Kd.R_mono (Kd.R_far (p:=⟨gb321,1,none⟩) (Kd.R_far (p:=⟨gb321,0,none⟩) (Kd.R_types HO315.1 BK321.1 (by decide)) (fun _ hk=>hk.2) (.int .i64 t316)) (fun _ hk=>hk.2) (.slice Ao78 t317.length co78)) (fun _ h_=>h_.1))) hb);have n3_:=qAm (Kd.R_below qB7 hb);have n4_:=qAm (blk_below (g:=gb292) (o:=.cells #[.int .i64 t287,.slice Ao15 t288.length co15] 28 (0,0)) (by (with_reducible repeat(first|refine blk_drewN ?_ _|refine blk_drew ?_|refine blk_alloc ?_ _));refine blk_far ?_ NB292_321.1 _;(with_reducible repeat(first|refine blk_drewN ?_ _|refine blk_drew ?_|refine blk_alloc ?_ _));refine blk_far ?_ NB292_321.1 _;(with_reducible repeat(first|refine blk_drewN ?_ _|refine blk_drew ?_|refine blk_alloc ?_ _));exact BK292.1) hb);have n5_:=qAm (blk_below (g:=gb301) (o:=.cells #[.int .i64 t296,.slice Ao22 t297.length co22] 28 (0,0)) (by (with_reducible repeat(first|refine blk_drewN ?_ _|refine blk_drew ?_|refine blk_alloc ?_ _));refine blk_far ?_ NB301_321.1 _;(with_reducible repeat(first|refine blk_drewN ?_ _|refine blk_drew ?_|refine blk_alloc ?_ _));refine blk_far ?_ NB301_321.1 _;(with_reducible repeat(first|refine blk_drewN ?_ _|refine blk_drew ?_|refine blk_alloc ?_ _));exact BK301.1) hb);have n6_:=qAm (blk_below (g:=gb321) (o:=.cells #[.int .i64 t316,.slice Ao78 t317.length co78] 28 (0,0)) (by (with_reducible repeat(first|refine blk_drewN ?_ _|refine blk_drew ?_|refine blk_alloc ?_ _));refine blk_put (cs:=#[.int .i64 t316,.slice none 0 0]) ?_ 1 _ rfl;(with_reducible repeat(first|refine blk_drewN ?_ _|refine blk_drew ?_|refine blk_alloc ?_ _));refine blk_put (cs:=#[.int .i64 0,.slice none 0 0]) ?_ 0 _ rfl;(with_reducible repeat(first|refine blk_drewN ?_ _|refine blk_drew ?_|refine blk_alloc ?_ _));exact BK321.1) hb);have n7_:=qAm (below_step qB8 hb);clear HO_293001;clear HO_302001;clear HO315;clear HO319;clear BK292;clear BK301;clear BK321;clear HB;have HO_293001:=n0_;have HO_302001:=n1_;have HO315:=n2_;have HO319:=n3_;have BK292:=n4_;have BK301:=n5_;have BK321:=n6_;have HB:=n7_;clear n0_ n1_ n2_ n3_ n4_ n5_ n6_ n7_;(try clear hb);(try clear hb2);(try clear hk);(try clear hi)));go_meet
                          case rel=>exact⟨_,((t320 !=t291)),qB52,H',⟨by have:=HJ8.1;have:=HJ37.1;first|omega|exact Nat.le_refl _⟩,⟨by (with_reducible repeat(first|apply Kd.R_alloc|apply Kd.R_drewN|apply Kd.R_drew));exact Kd.R_mono HO_293001.1 (fun _ hk=>⟨hk.1.1,hk.2⟩)⟩,⟨by (with_reducible repeat(first|apply Kd.R_alloc|apply Kd.R_drewN|apply Kd.R_drew));exact Kd.R_mono HO_302001.1 (fun _ hk=>⟨hk.1.1,hk.2⟩)⟩,⟨by (with_reducible repeat(first|apply Kd.R_alloc|apply Kd.R_drewN|apply Kd.R_drew));exact Kd.R_mono HO319.1 (fun _ hk=>⟨hk.1.1.2,hk.1.2⟩)⟩,⟨by (with_reducible repeat(first|refine blk_drewN ?_ _|refine blk_drew ?_|refine blk_alloc ?_ _));exact BK292.1⟩,⟨by (with_reducible repeat(first|refine blk_drewN ?_ _|refine blk_drew ?_|refine blk_alloc ?_ _));exact BK301.1⟩,⟨by (with_reducible repeat(first|refine blk_drewN ?_ _|refine blk_drew ?_|refine blk_alloc ?_ _));exact BK321.1⟩,⟨by repeat(first|(with_reducible first|exact HB.1|apply below_alloc|apply pw_below_drewN|apply below_drew1|refine below_set ?_ GE292.1|refine below_set ?_ GE301.1|refine below_set ?_ GE321.1)|exact HB.1)⟩⟩
                        · replace c80:=Bool.eq_false_iff.mpr c80
                          subst c80;have H1:(laws_FnExactCycloAtResidues.j2 kj37 t310 true t296 t311)=some true:=by rw [if_neg (show ¬(false=true) by decide)] at H;exact H
                          exact(laws_FnExactCycloAtResidues.j2_no _ _ _ _ H1).elim
                      case rest=>
                        clear HC65;try clear c1
                        try clear c2
                        try clear p2
                        try clear c3
                        try clear c4
                        try clear c4b0
                        try clear c4b1
                        try clear c5
                        try clear c6
                        try clear c7
                        try clear c8
                        try clear c9
                        try clear c13
                        try clear c14
                        try clear c15
                        try clear c16
                        try clear c20
                        try clear c24
                        try clear c25
                        try clear c26
                        try clear c29
                        try clear c30
                        try clear c31
                        try clear c33
                        try clear c36
                        try clear c42
                        try clear c42b0
                        try clear c44
                        try clear c45
                        try clear c49
                        try clear c53
                        try clear c56
                        try clear c56b0
                        try clear c57
                        try clear c62
                        try clear c62b0
                        try clear c62b1
                        try clear c66
                        try clear c75
                        try clear c76
                        try clear c80
                        try clear c81
                        try clear c82
                        try clear c84
                        try clear c87
                        try clear c88
                        try clear c90
                        try clear hcz14_0
                        try clear hcz14_1
                        try clear hcz21_0
                        try clear hcz21_1
                        try clear hcz26_0
                        try clear hcz26_1
                        try clear hcz27_0
                        try clear hcz27_1
                        try clear hcz30_0
                        try clear hcz30_1
                        try clear hcz31_0
                        try clear hcz31_1
                        try clear hcz46_0
                        try clear hcz46_1
                        try clear hcz47_0
                        try clear hcz47_1
                        try clear hcz50_0
                        try clear hcz50_1
                        try clear hcz51_0
                        try clear hcz51_1
                        try clear hcz58_0
                        try clear hcz58_1
                        try clear hcz60_0
                        try clear hcz60_1
                        try clear hcz67_0
                        try clear hcz67_1
                        try clear hcz69_0
                        try clear hcz69_1
                        try clear hcz77_0
                        try clear hcz77_1
                        try clear hcz83_0
                        try clear hcz83_1
                        try clear hcz85_0
                        try clear hcz85_1
                        try clear hcz89_0
                        try clear hcz89_1
                        try clear hcz91_0
                        try clear hcz91_1
                        try clear hfz14_0
                        try clear hfz14_1
                        try clear hfz21_0
                        try clear hfz21_1
                        try clear hfz26_0
                        try clear hfz26_1
                        try clear hfz27_0
                        try clear hfz27_1
                        try clear hfz30_0
                        try clear hfz30_1
                        try clear hfz31_0
                        try clear hfz31_1
                        try clear hfz46_0
                        try clear hfz46_1
                        try clear hfz47_0
                        try clear hfz47_1
                        try clear hfz50_0
                        try clear hfz50_1
                        try clear hfz51_0
                        try clear hfz51_1
                        try clear hfz58_0
                        try clear hfz58_1
                        try clear hfz60_0
                        try clear hfz60_1
                        try clear hfz67_0
                        try clear hfz67_1
                        try clear hfz69_0
                        try clear hfz69_1
                        try clear hfz77_0
                        try clear hfz77_1
                        try clear hfz83_0
                        try clear hfz83_1
                        try clear hfz85_0
                        try clear hfz85_1
                        try clear hfz89_0
                        try clear hfz89_1
                        try clear hfz91_0
                        try clear hfz91_1
                        try clear p2
                        obtain⟨kq,x94_64,rfl,HA,HJ64,HO_293001,HO_302001,HO_322001,BK292,BK301,BK321,HB⟩:=hcut;have hl302001_64:=(Kd.R_reads' HO_302001.1).1;rw [hl302001_64] at HO_302001
                        (try simp only [hl302001_64])
                        (try simp only [hl302001_64] at BK292)
                        (try simp only [hl302001_64] at BK301)
                        (try simp only [hl302001_64] at BK321)
                        (try simp only [hl302001_64] at HO_293001)
                        (try simp only [hl302001_64] at HO_322001)
                        cases kq with
                        |zero=>exact absurd HA.1 (by simp [laws_FnExactCycloAtResidues.j2])
                        |succ kj64=>
                          have H:=HA.1;clear HA;simp only [laws_FnExactCycloAtResidues.j2] at H
                          by_cases c93:x94_64=true
                          · subst c93
                            have H1:(some false)=some true:=by rw [if_pos rfl] at H;exact H
                            cases H1
                          · replace c93:=Bool.eq_false_iff.mpr c93
                            subst c93;have H1:((laws_heldCyclo.f kj64 t296 t311 1).bind fun t323=>(if t323<0 then (some false) else (if t323=t310 then (some true) else (some false))))=some true:=by rw [if_neg (show ¬(false=true) by decide)] at H;exact H
                            clear H;have H:=H1;clear H1;replace H:=qOb H;obtain⟨t323,A940,H⟩:=H;replace H:(if t323<0 then (some false) else (if t323=t310 then (some true) else (some false)))=some true:=H;have A94:=qAm A940;clear A940
                            by_cases c95:t323<0
                            · rw [if_pos c95] at H
                              cases H
                            · rw [if_neg c95] at H
                              have c95b0:decide (t323<0)=false:=decide_eq_false c95;clear c95
                              by_cases c100:t323=t310
                              · rw [if_pos c100] at H
                                have c100b0:(t323==t310)=true:=beq_iff_eq.mpr c100;have c100b1:(t323 !=t310)=false:=bne_eq_false_iff_eq.mpr c100;clear c100 H;have hnb101:=NB301_292.1;have hnc101:=NB292_301.1;have hnb102:=NB301_321.1;have hnc102:=NB321_301.1;have hcz103_0:wc.cell? ⟨gb301,0,none⟩=some (.int .i64 t296):=(blk_cell BK301.1 0).trans rfl;have hcz103_1:wc.cell? ⟨gb301,1,none⟩=some (.slice Ao22 t311.length co22):=(blk_cell BK301.1 1).trans rfl;have hfz103_0:=blk_frozen BK301.1 0;have hfz103_1:=blk_frozen BK301.1 1;go_wp2_with (first|((with_reducible refine gate_callee (f:=26) rfl ?_);refine goesL_ (some 97) rfl rfl Try.func26 (by kernel_rfl) rfl #[.agg #[.int .i64 t296,.slice Ao22 t311.length co22],.int .i64 1] rfl qB17 ?_;(with_reducible refine(laws_heldCyclo.calls kj64 t296 _ _ t311 1 t323 _ ?side1 ?side2 A94.1).mono ?_);(case side1=>repeat(first|exact(Kd.R_reads' HO_302001.1).2.2|(with_reducible refine Kd.C_alloc ?_ _)|(with_reducible refine Kd.C_drewN ?_ _)|(with_reducible refine Kd.C_drew ?_)));(case side2=>exact(Kd.R_reads' HO_302001.1).2.1);rintro e w104 ⟨rfl,hb⟩;refine⟨_,rfl,?_⟩;have n0_:=qAm (Kd.R_below qB29 hb);have n1_:=qAm (Kd.R_below qB30 hb);have n2_:=qAm (Kd.R_below (by (with_reducible repeat(first|apply Kd.R_alloc|apply Kd.R_drewN|apply Kd.R_drew));exact HO_322001.1) hb);have n3_:=qAm (blk_below (g:=gb292) (o:=.cells #[.int .i64 t287,.slice Ao15 t288.length co15] 28 (0,0)) qB26 hb);have n4_:=qAm (blk_below (g:=gb301) (o:=.cells #[.int .i64 t296,.slice Ao22 t311.length co22] 28 (0,0)) qB27 hb);have n5_:=qAm (blk_below (g:=gb321) (o:=.cells #[.int .i64 t316,.slice Ao78 t317.length co78] 28 (0,0)) (by (with_reducible repeat(first|refine blk_drewN ?_ _|refine blk_drew ?_|refine blk_alloc ?_ _));exact BK321.1) hb);have n6_:=qAm (below_step qB8 hb);clear HO_293001;clear HO_302001;clear HO_322001;clear BK292;clear BK301;clear BK321;clear HB;have HO_293001:=n0_;have HO_302001:=n1_;have HO_322001:=n2_;have BK292:=n3_;have BK301:=n4_;have BK321:=n5_;have HB:=n6_;clear n0_ n1_ n2_ n3_ n4_ n5_ n6_;(try clear hb);(try clear hb2);(try clear hk);(try clear hi)));go_ret;exact⟨by first|rfl|(simp [errW_none,errW_some] <;> rfl)|(simp [*,errW_none,errW_some] <;> rfl),by repeat(first|(with_reducible first|exact HB.1|apply below_alloc|apply pw_below_drewN|apply below_drew1|refine below_set ?_ GE292.1|refine below_set ?_ GE301.1|refine below_set ?_ GE321.1)|exact HB.1)⟩
                              · rw [if_neg c100] at H
                                cases H
                    · rw [if_neg c62] at H
                      cases H
          · replace c36:=Bool.eq_false_iff.mpr c36
            subst c36;have H1:(some false)=some true:=by rw [if_neg (show ¬(false=true) by decide)] at H;exact H
            cases H1

/-- THE ONE PURE STATEMENT of laws_FnExactCycloAtResidues: yours. -/
def laws_FnExactCycloAtResidues.Pure:Prop:=∀(a0:Int) (a1:Int) (l2:List Int),(Lit.int .i64 a0).wf=true→(Lit.int .i64 a1).wf=true→l2.length≤maxLen→l2.length*8≤140737488351232→(∀x∈l2,(Lit.int .i64 x).wf=true)→∃k,laws_FnExactCycloAtResidues.f k a0 a1 l2=some true
theorem laws_FnExactCycloAtResidues.walk (P:laws_FnExactCycloAtResidues.Pure) (a0:Int) (a1:Int) (a2:Option Addr) (len2 cap2:Nat) (z2:List Int) (w:World) (w0:(Lit.int .i64 a0).wf=true) (w1:(Lit.int .i64 a1).wf=true) (w2:(a2=none∧len2=0∧cap2=0∧z2=[])∨∃x,a2=some x∧len2≤cap2∧cap2≤maxLen∧z2.length=cap2∧(∀i,i<z2.length→w.cell? (x.add i)=some (.int .i64 (z2.getD i 0)))∧∀n∈z2,(Lit.int .i64 n).wf=true) (y2:len2*8≤140737488351232):
    Calls Try.prog 7 #[.int .i64 a0,.int .i64 a1,.slice a2 len2 cap2] w fun e w'=>e=.returned (.bool true)∧Below w.heap.size w w':=by
  obtain⟨l2,rfl,hr2,hm2,hw2,hc2⟩:=ReadsInt.ofRowC w2;obtain⟨k,h⟩:=P a0 a1 l2 w0 w1 hm2 y2 hw2;refine(laws_FnExactCycloAtResidues.calls k a0 a1 _ _ l2 w (Kd.C_of_reads (d:=(0:Int)) (h1:=fun _=>rfl) hr2) hc2 h).mono ?_;rintro e w' ⟨rfl,hd⟩;exact⟨rfl,hd⟩

end Go.Proofs.Ytefhabkikaadiaa.PFnExactCycloAtResidues
