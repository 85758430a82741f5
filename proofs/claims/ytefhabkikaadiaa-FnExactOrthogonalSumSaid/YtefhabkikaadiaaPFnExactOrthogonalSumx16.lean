/- The functions that the law reaches, as plain functions, each with the proof that the program comes to it; no condition. Written by a program of this session (wip/mp.py) over the printing of the kit; what is marked HAND is told by hand. -/
import Derived.Test.YtefhabkikaadiaaPFnExactOrthogonalSumx0
import Derived.Test.YtefhabkikaadiaaPFnExactOrthogonalSumx1
import Derived.Test.YtefhabkikaadiaaPFnExactOrthogonalSumx9
import Derived.Test.YtefhabkikaadiaaPFnExactOrthogonalSumx14
import Derived.Test.YtefhabkikaadiaaPFnExactOrthogonalSumx15
namespace Go.Proofs.Ytefhabkikaadiaa.PFnExactOrthogonalSum
open Go.RowKit Go.Proofs.YtefhabkikaadiaaW.PrintWords Go.Proofs.YtefhabkikaadiaaW.PrintLast Go.Proofs.YtefhabkikaadiaaW.PrintMore
attribute [local go_sem] max2_int min2_int max_two min_two max_three min_three max_four min_four   -- for this text's walks alone
set_option linter.unusedVariables false
set_option linter.unusedSimpArgs false

/-! ### laws_FnExactOrthogonalSum: function 5 -/
mutual
def laws_FnExactOrthogonalSum.j0:Nat→Int→Bool→Int→Int→Int→Int→Int→Int→Int→List Int→Int→List Int→Option (Bool)
 |0,_,_,_,_,_,_,_,_,_,_,_,_=>none
 |k+1,x6,x37,x460000,x460001,x460002,x461000,x461001,x461002,x473000,x473001,x485000,x485001=>if x37=true then (some false) else ((laws_markCyclo.f k x485000 x485001 1).bind fun bt486=>((laws_heldCyclo.f k x485000 bt486.2 1).bind fun t488=>(if t488<0 then (some false) else (if t488=bt486.1 then ((laws_toCharacter.f x460000 x460001 x460002).bind fun bt489=>((laws_toCharacter.f x461000 x461001 x461002).bind fun bt492=>((impl_OrthogonalSum.f k bt489.1 bt489.2.1 bt489.2.2 bt492.1 bt492.2.1 bt492.2.2).bind fun bt495=>((laws_eqCyclo.f k bt495.1 bt495.2.1 x473000 x473001).bind fun t501=>(if t501=true then (laws_FnExactOrthogonalSum.j1 k bt486.1 (bt495.2.2 !=x6) x485000 bt486.2) else (laws_FnExactOrthogonalSum.j1 k bt486.1 true x485000 bt486.2)))))) else (some false)))))
def laws_FnExactOrthogonalSum.j1:Nat→Int→Bool→Int→List Int→Option (Bool)
 |0,_,_,_,_=>none
 |k+1,x9,x65,x485000,x485001=>if x65=true then (some false) else ((laws_heldCyclo.f k x485000 x485001 1).bind fun t502=>(if t502<0 then (some false) else (if t502=x9 then (some true) else (some false))))
end
def laws_FnExactOrthogonalSum.f (k:Nat) (a0_0:Int) (a0_1:Int) (a0_2:Int) (a1_0:Int) (a1_1:Int) (a1_2:Int):Option (Bool):=(laws_toCharacter.f a0_0 a0_1 a0_2).bind fun bt461=>((laws_toCharacter.f a1_0 a1_1 a1_2).bind fun bt464=>((spec_OrthogonalSum.f k bt461.1 bt461.2.1 bt461.2.2 bt464.1 bt464.2.1 bt464.2.2).bind fun bt467=>((laws_toCharacter.f a0_0 a0_1 a0_2).bind fun bt473=>((laws_toCharacter.f a1_0 a1_1 a1_2).bind fun bt476=>((impl_OrthogonalSum.f k bt473.1 bt473.2.1 bt473.2.2 bt476.1 bt476.2.1 bt476.2.2).bind fun bt479=>((laws_eqCyclo.f k bt479.1 bt479.2.1 bt467.1 bt467.2.1).bind fun t485=>(if t485=true then (laws_FnExactOrthogonalSum.j0 k bt467.2.2 (bt479.2.2 !=bt467.2.2) a0_0 a0_1 a0_2 a1_0 a1_1 a1_2 bt467.1 bt467.2.1 bt479.1 bt479.2.1) else (laws_FnExactOrthogonalSum.j0 k bt467.2.2 true a0_0 a0_1 a0_2 a1_0 a1_1 a1_2 bt467.1 bt467.2.1 bt479.1 bt479.2.1))))))))
theorem laws_FnExactOrthogonalSum.mono_l:∀k,(∀y0 y1 y2 y3 y4 y5 y6 y7 y8 y9 y10 y11,LeO (laws_FnExactOrthogonalSum.j0 k y0 y1 y2 y3 y4 y5 y6 y7 y8 y9 y10 y11) (laws_FnExactOrthogonalSum.j0 (k+1) y0 y1 y2 y3 y4 y5 y6 y7 y8 y9 y10 y11))∧(∀y0 y1 y2 y3,LeO (laws_FnExactOrthogonalSum.j1 k y0 y1 y2 y3) (laws_FnExactOrthogonalSum.j1 (k+1) y0 y1 y2 y3))
 |0=>⟨fun _ _ _ _ _ _ _ _ _ _ _ _ r h=>by simp [laws_FnExactOrthogonalSum.j0] at h,fun _ _ _ _ r h=>by simp [laws_FnExactOrthogonalSum.j1] at h⟩
 |k+1=>by
  obtain⟨ih0,ih1⟩:=laws_FnExactOrthogonalSum.mono_l k;refine⟨?_,?_⟩
  ·intro y0 y1 y2 y3 y4 y5 y6 y7 y8 y9 y10 y11;unfold laws_FnExactOrthogonalSum.j0;repeat' first
   |(with_reducible exact ih0 _ _ _ _ _ _ _ _ _ _ _ _)
   |(with_reducible exact ih1 _ _ _ _)
   |(with_reducible exact impl_OrthogonalSum.mono _ _ _ _ _ _ _)
   |(with_reducible exact laws_eqCyclo.mono _ _ _ _ _)
   |(with_reducible exact laws_heldCyclo.mono _ _ _ _)
   |(with_reducible exact laws_markCyclo.mono _ _ _ _)
   |(with_reducible exact spec_OrthogonalSum.mono _ _ _ _ _ _ _)
   |(with_reducible exact LeO.refl _)
   |(with_reducible exact LeO.none _)
   |(with_reducible refine LeO.ite ?_ ?_)
   |(with_reducible refine LeO.bind ?_ (fun _=>?_))
   |exact ih0 _ _ _ _ _ _ _ _ _ _ _ _
   |exact ih1 _ _ _ _
   |exact impl_OrthogonalSum.mono _ _ _ _ _ _ _
   |exact laws_eqCyclo.mono _ _ _ _ _
   |exact laws_heldCyclo.mono _ _ _ _
   |exact laws_markCyclo.mono _ _ _ _
   |exact spec_OrthogonalSum.mono _ _ _ _ _ _ _
   |exact LeO.none _
   |refine LeO.ite ?_ ?_
   |refine LeO.bind ?_ (fun _=>?_)
  ·intro y0 y1 y2 y3;unfold laws_FnExactOrthogonalSum.j1;repeat' first
   |(with_reducible exact ih0 _ _ _ _ _ _ _ _ _ _ _ _)
   |(with_reducible exact ih1 _ _ _ _)
   |(with_reducible exact impl_OrthogonalSum.mono _ _ _ _ _ _ _)
   |(with_reducible exact laws_eqCyclo.mono _ _ _ _ _)
   |(with_reducible exact laws_heldCyclo.mono _ _ _ _)
   |(with_reducible exact laws_markCyclo.mono _ _ _ _)
   |(with_reducible exact spec_OrthogonalSum.mono _ _ _ _ _ _ _)
   |(with_reducible exact LeO.refl _)
   |(with_reducible exact LeO.none _)
   |(with_reducible refine LeO.ite ?_ ?_)
   |(with_reducible refine LeO.bind ?_ (fun _=>?_))
   |exact ih0 _ _ _ _ _ _ _ _ _ _ _ _
   |exact ih1 _ _ _ _
   |exact impl_OrthogonalSum.mono _ _ _ _ _ _ _
   |exact laws_eqCyclo.mono _ _ _ _ _
   |exact laws_heldCyclo.mono _ _ _ _
   |exact laws_markCyclo.mono _ _ _ _
   |exact spec_OrthogonalSum.mono _ _ _ _ _ _ _
   |exact LeO.none _
   |refine LeO.ite ?_ ?_
   |refine LeO.bind ?_ (fun _=>?_)
theorem laws_FnExactOrthogonalSum.mono:∀a0 a1 a2 a3 a4 a5 k,LeO (laws_FnExactOrthogonalSum.f k a0 a1 a2 a3 a4 a5) (laws_FnExactOrthogonalSum.f (k+1) a0 a1 a2 a3 a4 a5):=by
 intro a0 a1 a2 a3 a4 a5 k;obtain⟨ih0,ih1⟩:=laws_FnExactOrthogonalSum.mono_l k;unfold laws_FnExactOrthogonalSum.f;repeat' first
   |(with_reducible exact ih0 _ _ _ _ _ _ _ _ _ _ _ _)
   |(with_reducible exact ih1 _ _ _ _)
   |(with_reducible exact impl_OrthogonalSum.mono _ _ _ _ _ _ _)
   |(with_reducible exact laws_eqCyclo.mono _ _ _ _ _)
   |(with_reducible exact laws_heldCyclo.mono _ _ _ _)
   |(with_reducible exact laws_markCyclo.mono _ _ _ _)
   |(with_reducible exact spec_OrthogonalSum.mono _ _ _ _ _ _ _)
   |(with_reducible exact LeO.refl _)
   |(with_reducible exact LeO.none _)
   |(with_reducible refine LeO.ite ?_ ?_)
   |(with_reducible refine LeO.bind ?_ (fun _=>?_))
   |exact ih0 _ _ _ _ _ _ _ _ _ _ _ _
   |exact ih1 _ _ _ _
   |exact impl_OrthogonalSum.mono _ _ _ _ _ _ _
   |exact laws_eqCyclo.mono _ _ _ _ _
   |exact laws_heldCyclo.mono _ _ _ _
   |exact laws_markCyclo.mono _ _ _ _
   |exact spec_OrthogonalSum.mono _ _ _ _ _ _ _
   |exact LeO.none _
   |refine LeO.ite ?_ ?_
   |refine LeO.bind ?_ (fun _=>?_)
def laws_FnExactOrthogonalSum.T1:Bool×List (List Nat×List Nat):=(true,[([],[]),([0],[0]),([],[]),([2,1],[2]),([1,3,3],[1,3]),([4],[4]),([5],[5]),([5],[5]),([],[]),([8,6,4,0,1,2,3,4,5,6,8],[6,8]),([7,9,0,1,2,3,4,5,6,7,8,9],[7])])
def laws_FnExactOrthogonalSum.B1:List Nat:=[0,1,0,7,15,31,63,63,0,383,1023]
theorem laws_FnExactOrthogonalSum.tab1:rtab .any (opsOf Try.f5 1)=laws_FnExactOrthogonalSum.T1:=by kernel_rfl
theorem laws_FnExactOrthogonalSum.bits1:waitsOk laws_FnExactOrthogonalSum.T1.2 laws_FnExactOrthogonalSum.B1=true:=by kernel_rfl
def laws_FnExactOrthogonalSum.T2:Bool×List (List Nat×List Nat):=(true,[([],[]),([0],[0]),([],[]),([2,1],[2]),([1,3,3],[1,3]),([4],[4]),([5],[5]),([5],[5]),([],[]),([8,6,4,0,1,2,3,4,5,6,8],[6,8]),([7,9,0,1,2,3,4,5,6,7,8,9],[7])])
def laws_FnExactOrthogonalSum.B2:List Nat:=[0,1,0,7,15,31,63,63,0,383,1023]
theorem laws_FnExactOrthogonalSum.tab2:rtab .any (opsOf Try.f5 2)=laws_FnExactOrthogonalSum.T2:=by kernel_rfl
theorem laws_FnExactOrthogonalSum.bits2:waitsOk laws_FnExactOrthogonalSum.T2.2 laws_FnExactOrthogonalSum.B2=true:=by kernel_rfl
def laws_FnExactOrthogonalSum.T13:Bool×List (List Nat×List Nat):=(true,[([],[]),([0],[0]),([],[]),([2,1],[2]),([1,3,3],[1,3]),([4],[4]),([5],[5]),([5],[5]),([],[]),([8,6,4,0,1,2,3,4,5,6,8],[6,8]),([7,9,0,1,2,3,4,5,6,7,8,9],[7])])
def laws_FnExactOrthogonalSum.B13:List Nat:=[0,1,0,7,15,31,63,63,0,383,1023]
theorem laws_FnExactOrthogonalSum.tab13:rtab .any (opsOf Try.f5 13)=laws_FnExactOrthogonalSum.T13:=by kernel_rfl
theorem laws_FnExactOrthogonalSum.bits13:waitsOk laws_FnExactOrthogonalSum.T13.2 laws_FnExactOrthogonalSum.B13=true:=by kernel_rfl
-- TRUE ALONE
theorem laws_FnExactOrthogonalSum.j0_no (k:Nat) (y0:Int) (y2:Int) (y3:Int) (y4:Int) (y5:Int) (y6:Int) (y7:Int) (y8:Int) (y9:List Int) (y10:Int) (y11:List Int) (h:laws_FnExactOrthogonalSum.j0 k y0 true y2 y3 y4 y5 y6 y7 y8 y9 y10 y11=some true):False:=by
 cases k with
 |zero=>first|(simp only [laws_FnExactOrthogonalSum.j0] at h;done)|(simp only [laws_FnExactOrthogonalSum.j0] at h;cases h)
 |succ k=>rw [laws_FnExactOrthogonalSum.j0,if_pos rfl] at h;cases h
theorem laws_FnExactOrthogonalSum.j1_no (k:Nat) (y0:Int) (y2:Int) (y3:List Int) (h:laws_FnExactOrthogonalSum.j1 k y0 true y2 y3=some true):False:=by
 cases k with
 |zero=>first|(simp only [laws_FnExactOrthogonalSum.j1] at h;done)|(simp only [laws_FnExactOrthogonalSum.j1] at h;cases h)
 |succ k=>rw [laws_FnExactOrthogonalSum.j1,if_pos rfl] at h;cases h
set_option maxHeartbeats 8000000 in
set_option maxRecDepth 100000 in
theorem laws_FnExactOrthogonalSum.calls (k:Nat) (a0_0:Int) (a0_1:Int) (a0_2:Int) (a1_0:Int) (a1_1:Int) (a1_2:Int) (w:World) (h:laws_FnExactOrthogonalSum.f k a0_0 a0_1 a0_2 a1_0 a1_1 a1_2=some true):
  Calls Try.prog 5 #[.agg #[.int .i64 a0_0,.int .i64 a0_1,.int .i64 a0_2],.agg #[.int .i64 a1_0,.int .i64 a1_1,.int .i64 a1_2]] w fun e w'=>e=.returned (.bool true)∧Below w.heap.size w w':=by
 have hu36:=Try.underlying36;have hu28:=Try.underlying28;have HB:=qAm (Below.refl w.heap.size w);have H:((laws_toCharacter.f a0_0 a0_1 a0_2).bind fun bt461=>((laws_toCharacter.f a1_0 a1_1 a1_2).bind fun bt464=>((spec_OrthogonalSum.f k bt461.1 bt461.2.1 bt461.2.2 bt464.1 bt464.2.1 bt464.2.2).bind fun bt467=>((laws_toCharacter.f a0_0 a0_1 a0_2).bind fun bt473=>((laws_toCharacter.f a1_0 a1_1 a1_2).bind fun bt476=>((impl_OrthogonalSum.f k bt473.1 bt473.2.1 bt473.2.2 bt476.1 bt476.2.1 bt476.2.2).bind fun bt479=>((laws_eqCyclo.f k bt479.1 bt479.2.1 bt467.1 bt467.2.1).bind fun t485=>(if t485=true then (laws_FnExactOrthogonalSum.j0 k bt467.2.2 (bt479.2.2 !=bt467.2.2) a0_0 a0_1 a0_2 a1_0 a1_1 a1_2 bt467.1 bt467.2.1 bt479.1 bt479.2.1) else (laws_FnExactOrthogonalSum.j0 k bt467.2.2 true a0_0 a0_1 a0_2 a1_0 a1_1 a1_2 bt467.1 bt467.2.1 bt479.1 bt479.2.1)))))))))=some true:=h;clear h;replace H:=qOb H;obtain⟨⟨t461,t462,t463⟩,A30,H⟩:=H;replace H:((laws_toCharacter.f a1_0 a1_1 a1_2).bind fun bt464=>((spec_OrthogonalSum.f k t461 t462 t463 bt464.1 bt464.2.1 bt464.2.2).bind fun bt467=>((laws_toCharacter.f a0_0 a0_1 a0_2).bind fun bt473=>((laws_toCharacter.f a1_0 a1_1 a1_2).bind fun bt476=>((impl_OrthogonalSum.f k bt473.1 bt473.2.1 bt473.2.2 bt476.1 bt476.2.1 bt476.2.2).bind fun bt479=>((laws_eqCyclo.f k bt479.1 bt479.2.1 bt467.1 bt467.2.1).bind fun t485=>(if t485=true then (laws_FnExactOrthogonalSum.j0 k bt467.2.2 (bt479.2.2 !=bt467.2.2) a0_0 a0_1 a0_2 a1_0 a1_1 a1_2 bt467.1 bt467.2.1 bt479.1 bt479.2.1) else (laws_FnExactOrthogonalSum.j0 k bt467.2.2 true a0_0 a0_1 a0_2 a1_0 a1_1 a1_2 bt467.1 bt467.2.1 bt479.1 bt479.2.1))))))))=some true:=H;have A3:=qAm A30;clear A30;replace H:=qOb H;obtain⟨⟨t464,t465,t466⟩,A40,H⟩:=H;replace H:((spec_OrthogonalSum.f k t461 t462 t463 t464 t465 t466).bind fun bt467=>((laws_toCharacter.f a0_0 a0_1 a0_2).bind fun bt473=>((laws_toCharacter.f a1_0 a1_1 a1_2).bind fun bt476=>((impl_OrthogonalSum.f k bt473.1 bt473.2.1 bt473.2.2 bt476.1 bt476.2.1 bt476.2.2).bind fun bt479=>((laws_eqCyclo.f k bt479.1 bt479.2.1 bt467.1 bt467.2.1).bind fun t485=>(if t485=true then (laws_FnExactOrthogonalSum.j0 k bt467.2.2 (bt479.2.2 !=bt467.2.2) a0_0 a0_1 a0_2 a1_0 a1_1 a1_2 bt467.1 bt467.2.1 bt479.1 bt479.2.1) else (laws_FnExactOrthogonalSum.j0 k bt467.2.2 true a0_0 a0_1 a0_2 a1_0 a1_1 a1_2 bt467.1 bt467.2.1 bt479.1 bt479.2.1)))))))=some true:=H;have A4:=qAm A40;clear A40;replace H:=qOb H;obtain⟨⟨t467,t468,t471⟩,A50,H⟩:=H;replace H:((laws_toCharacter.f a0_0 a0_1 a0_2).bind fun bt473=>((laws_toCharacter.f a1_0 a1_1 a1_2).bind fun bt476=>((impl_OrthogonalSum.f k bt473.1 bt473.2.1 bt473.2.2 bt476.1 bt476.2.1 bt476.2.2).bind fun bt479=>((laws_eqCyclo.f k bt479.1 bt479.2.1 t467 t468).bind fun t485=>(if t485=true then (laws_FnExactOrthogonalSum.j0 k t471 (bt479.2.2 !=t471) a0_0 a0_1 a0_2 a1_0 a1_1 a1_2 t467 t468 bt479.1 bt479.2.1) else (laws_FnExactOrthogonalSum.j0 k t471 true a0_0 a0_1 a0_2 a1_0 a1_1 a1_2 t467 t468 bt479.1 bt479.2.1))))))=some true:=H;have A5:=qAm A50;clear A50;replace H:=qOb H;obtain⟨⟨t473,t474,t475⟩,A60,H⟩:=H;replace H:((laws_toCharacter.f a1_0 a1_1 a1_2).bind fun bt476=>((impl_OrthogonalSum.f k t473 t474 t475 bt476.1 bt476.2.1 bt476.2.2).bind fun bt479=>((laws_eqCyclo.f k bt479.1 bt479.2.1 t467 t468).bind fun t485=>(if t485=true then (laws_FnExactOrthogonalSum.j0 k t471 (bt479.2.2 !=t471) a0_0 a0_1 a0_2 a1_0 a1_1 a1_2 t467 t468 bt479.1 bt479.2.1) else (laws_FnExactOrthogonalSum.j0 k t471 true a0_0 a0_1 a0_2 a1_0 a1_1 a1_2 t467 t468 bt479.1 bt479.2.1)))))=some true:=H;have A6:=qAm A60;clear A60;replace H:=qOb H;obtain⟨⟨t476,t477,t478⟩,A70,H⟩:=H;replace H:((impl_OrthogonalSum.f k t473 t474 t475 t476 t477 t478).bind fun bt479=>((laws_eqCyclo.f k bt479.1 bt479.2.1 t467 t468).bind fun t485=>(if t485=true then (laws_FnExactOrthogonalSum.j0 k t471 (bt479.2.2 !=t471) a0_0 a0_1 a0_2 a1_0 a1_1 a1_2 t467 t468 bt479.1 bt479.2.1) else (laws_FnExactOrthogonalSum.j0 k t471 true a0_0 a0_1 a0_2 a1_0 a1_1 a1_2 t467 t468 bt479.1 bt479.2.1))))=some true:=H;have A7:=qAm A70;clear A70;replace H:=qOb H;obtain⟨⟨t479,t480,t483⟩,A80,H⟩:=H;replace H:((laws_eqCyclo.f k t479 t480 t467 t468).bind fun t485=>(if t485=true then (laws_FnExactOrthogonalSum.j0 k t471 (t483 !=t471) a0_0 a0_1 a0_2 a1_0 a1_1 a1_2 t467 t468 t479 t480) else (laws_FnExactOrthogonalSum.j0 k t471 true a0_0 a0_1 a0_2 a1_0 a1_1 a1_2 t467 t468 t479 t480)))=some true:=H;have A8:=qAm A80;clear A80;have HC9:=qAm H;clear H;go_enter Try.func5,Try.ntmps5;try go_wp2_with (first|((with_reducible refine gate_dst (N:=2) rfl ?_);refine box_event ?hg (N:=2) ?hd (cs:=#[.int .i64 a0_0,.int .i64 a0_1,.int .i64 a0_2]) (t:=36) ?hr ?_;(case hd=>rfl);(case hg=>rfl);(case hr=>first|(go_simp;done)|(go_simp;rfl));intro gb459 hg w10 hbox hb;have n0_:=qAm (below_step qB95 hb);have n1_:=qAm (hbox);have n2_:=qAm ((by rw [hg];exact(below_size qB95):w.heap.size≤gb459));have n3_:=qAm ((by rw [hg];exact(below_size qB95):w.heap.size≤gb459));clear HB;have HB:=n0_;have BK459:=n1_;have GW459:=n2_;have GE459:=n3_;clear n0_ n1_ n2_ n3_;clear hb hbox hg)|((with_reducible refine gate_dst (N:=3) rfl ?_);refine box_event ?hg (N:=3) ?hd (cs:=#[.int .i64 a1_0,.int .i64 a1_1,.int .i64 a1_2]) (t:=36) ?hr ?_;(case hd=>rfl);(case hg=>rfl);(case hr=>first|(go_simp;done)|(go_simp;rfl));intro gb460 hg w11 hbox hb;have n0_:=qAm (blk_below (g:=gb459) (o:=.cells #[.int .i64 a0_0,.int .i64 a0_1,.int .i64 a0_2] 36 (0,0)) qB137 hb);have n1_:=qAm (below_step qB71 hb);have n2_:=qAm (hbox);have n3_:=qAm ((by rw [hg];exact(below_size qB71):w.heap.size≤gb460));have n4_:=qAm ((by rw [hg];exact(below_size qB71):w.heap.size≤gb460));have n5_:=qAm ((by rw [hg];exact Nat.ne_of_lt (blk_lt (g:=gb459) (o:=.cells #[.int .i64 a0_0,.int .i64 a0_1,.int .i64 a0_2] 36 (0,0)) qB137):gb459≠gb460));have n6_:=qAm ((by rw [hg];exact Nat.ne_of_gt (blk_lt (g:=gb459) (o:=.cells #[.int .i64 a0_0,.int .i64 a0_1,.int .i64 a0_2] 36 (0,0)) qB137):gb460≠gb459));clear BK459;clear HB;have BK459:=n0_;have HB:=n1_;have BK460:=n2_;have GW460:=n3_;have GE460:=n4_;have NB459_460:=n5_;have NB460_459:=n6_;clear n0_ n1_ n2_ n3_ n4_ n5_ n6_;clear hb hbox hg))
 have n0_:=qAm (blk_drew BK459.1);have n1_:=qAm (blk_drew BK460.1);have n2_:=qAm (below_drew1 HB.1);clear BK459 BK460 HB;have BK459:=n0_;have BK460:=n1_;have HB:=n2_;clear n0_ n1_ n2_;refine start_ (n:=11) (S:=fun w'=>w'.cell? ⟨gb459,0,none⟩=some (.int .i64 a0_0)∧w'.cell? ⟨gb459,1,none⟩=some (.int .i64 a0_1)∧w'.cell? ⟨gb459,2,none⟩=some (.int .i64 a0_2)∧w'.cell? ⟨gb460,0,none⟩=some (.int .i64 a1_0)∧w'.cell? ⟨gb460,1,none⟩=some (.int .i64 a1_1)∧w'.cell? ⟨gb460,2,none⟩=some (.int .i64 a1_2)) (ds:=[]) #[false,false,false,false,false,false,false,false,false,false,false] (by kernel_rfl) rfl rfl ⟨(blk_cell BK459.1 0).trans rfl,(blk_cell BK459.1 1).trans rfl,(blk_cell BK459.1 2).trans rfl,(blk_cell BK460.1 0).trans rfl,(blk_cell BK460.1 1).trans rfl,(blk_cell BK460.1 2).trans rfl⟩ (fun hHeld=>?_);refine with_tabW laws_FnExactOrthogonalSum.tab1 laws_FnExactOrthogonalSum.bits1 (fun HT_ HW_=>?_);generalize w11.drew=w12 at BK459 BK460 HB hHeld ⊢;refine take_ (i:=0) (N:=some 14) (v:=?_) (a':=?_) #[true,false,false,false,false,false,false,false,false,false,false] rfl rfl (take_ofW HT_.1 HW_.1 (by kernel_rfl)) (fun _ _ _ h=>h) (Or.inl ⟨by rfl,?_⟩) hHeld ?_ ?_;rotate_left
 ·rintro w' ⟨s0,s1,s2,s3,s4,s5⟩;go_simp;with_reducible rfl
 rotate_left
 ·simp only [Act.put,qSa,qSb,qSc,i64_w,i32_w];rfl
 refine take_ (i:=2) (N:=some 16) (v:=?_) (a':=?_) #[true,false,true,false,false,false,false,false,false,false,false] rfl rfl (take_ofW HT_.1 HW_.1 (by kernel_rfl)) (fun _ _ _ h=>h) (Or.inl ⟨by rfl,?_⟩) hHeld ?_ ?_;rotate_left
 ·rintro w' ⟨s0,s1,s2,s3,s4,s5⟩;go_simp;with_reducible rfl
 rotate_left
 ·simp only [Act.put,qSa,qSb,qSc,i64_w,i32_w];rfl
 refine join_ (σ:=Value×Nat) 2 #[true,true,true,true,true,true,true,true,true,false,false] (fun s_=>[(15,.agg #[.int .i64 t461,.int .i64 t462,.int .i64 t463]),(17,.agg #[.int .i64 t464,.int .i64 t465,.int .i64 t466]),(18,.tuple #[.agg #[.int .i64 t467,s_.1],.int .i64 t471]),(5,.pointer (some ⟨s_.2,0,none⟩)),(13,.tuple #[.agg #[.int .i64 t467,s_.1],.int .i64 t471]),(19,.agg #[.int .i64 t467,s_.1]),(20,.int .i64 t471)]) (fun s_ w'=>(w'.cell? ⟨gb459,0,none⟩=some (.int .i64 a0_0)∧w'.cell? ⟨gb459,1,none⟩=some (.int .i64 a0_1)∧w'.cell? ⟨gb459,2,none⟩=some (.int .i64 a0_2)∧w'.cell? ⟨gb460,0,none⟩=some (.int .i64 a1_0)∧w'.cell? ⟨gb460,1,none⟩=some (.int .i64 a1_1)∧w'.cell? ⟨gb460,2,none⟩=some (.int .i64 a1_2))∧(Kd.R (Kd.int .i64) 2 w' w.heap.size (fun _=>True) s_.1 t468)∧(w'.heap[gb459]? =some (.cells #[.int .i64 a0_0,.int .i64 a0_1,.int .i64 a0_2] 36 (0,0)))∧(w'.heap[gb460]? =some (.cells #[.int .i64 a1_0,.int .i64 a1_1,.int .i64 a1_2] 36 (0,0)))∧(w'.heap[s_.2]? =some (.cells #[.int .i64 0,.slice none 0 0] 28 (0,0)))∧(w.heap.size≤s_.2)∧(w.heap.size≤s_.2)∧(gb459≠s_.2)∧(s_.2≠gb459)∧(gb460≠s_.2)∧(s_.2≠gb460)∧(Below w.heap.size w w')) ?_ ?_;rotate_left
 ·intro hCont;refine two_ (i:=1) (j:=8) (Ni:=some 15) (Nj:=some 5) #[true,true,true,false,false,false,false,false,false,false,false] #[true,false,true,false,false,false,false,false,true,false,false] rfl rfl rfl rfl (two_of HT_.1 (by kernel_rfl)) (by decide) (by decide) (fun K hK=>?_) (fun K hK=>?_)
  ·skip;refine goes_ Try.func19 (by kernel_rfl) rfl #[.agg #[.int .i64 a0_0,.int .i64 a0_1,.int .i64 a0_2]] (by rfl) rfl rfl qB90 ?_;with_reducible refine(laws_toCharacter.calls a0_0 a0_1 a0_2 t461 t462 t463 _ A3.1).mono ?_
   rintro e w13 ⟨rfl,hb⟩;refine⟨_,rfl,?_⟩;have n0_:=qAm (blk_below (g:=gb459) (o:=.cells #[.int .i64 a0_0,.int .i64 a0_1,.int .i64 a0_2] 36 (0,0)) qB137 hb);have n1_:=qAm (blk_below (g:=gb460) (o:=.cells #[.int .i64 a1_0,.int .i64 a1_1,.int .i64 a1_2] 36 (0,0)) qB138 hb);have n2_:=qAm (below_step qB44 hb);clear BK459 BK460 HB;have BK459:=n0_;have BK460:=n1_;have HB:=n2_;clear n0_ n1_ n2_
   (try clear hb)
   (try clear hb2)
   (try clear hk)
   (try clear hi)
   refine hK.out _ _ ⟨(blk_cell BK459.1 0).trans rfl,(blk_cell BK459.1 1).trans rfl,(blk_cell BK459.1 2).trans rfl,(blk_cell BK460.1 0).trans rfl,(blk_cell BK460.1 1).trans rfl,(blk_cell BK460.1 2).trans rfl⟩ (fun hHeld=>?_);clear hK K;refine norm_ (a':=?_) ?_ ?_;rotate_left
   ·show Act.put _ (some 15) _=_
    simp only [Act.put,qSa,qSb,qSc,i64_w,i32_w];rfl
   refine two_ (i:=3) (j:=8) (Ni:=some 17) (Nj:=some 5) #[true,true,true,true,false,false,false,false,false,false,false] #[true,true,true,false,false,false,false,false,true,false,false] rfl rfl rfl rfl (two_of HT_.1 (by kernel_rfl)) (by decide) (by decide) (fun K hK=>?_) (fun K hK=>?_)
   ·skip;refine goes_ Try.func19 (by kernel_rfl) rfl #[.agg #[.int .i64 a1_0,.int .i64 a1_1,.int .i64 a1_2]] (by rfl) rfl rfl qB90 ?_;with_reducible refine(laws_toCharacter.calls a1_0 a1_1 a1_2 t464 t465 t466 _ A4.1).mono ?_
    rintro e w14 ⟨rfl,hb⟩;refine⟨_,rfl,?_⟩;have n0_:=qAm (blk_below (g:=gb459) (o:=.cells #[.int .i64 a0_0,.int .i64 a0_1,.int .i64 a0_2] 36 (0,0)) qB137 hb);have n1_:=qAm (blk_below (g:=gb460) (o:=.cells #[.int .i64 a1_0,.int .i64 a1_1,.int .i64 a1_2] 36 (0,0)) qB138 hb);have n2_:=qAm (below_step qB44 hb);clear BK459 BK460 HB;have BK459:=n0_;have BK460:=n1_;have HB:=n2_;clear n0_ n1_ n2_
    (try clear hb)
    (try clear hb2)
    (try clear hk)
    (try clear hi)
    refine hK.out _ _ ⟨(blk_cell BK459.1 0).trans rfl,(blk_cell BK459.1 1).trans rfl,(blk_cell BK459.1 2).trans rfl,(blk_cell BK460.1 0).trans rfl,(blk_cell BK460.1 1).trans rfl,(blk_cell BK460.1 2).trans rfl⟩ (fun hHeld=>?_);clear hK K;refine norm_ (a':=?_) ?_ ?_;rotate_left
    ·show Act.put _ (some 17) _=_
     simp only [Act.put,qSa,qSb,qSc,i64_w,i32_w];rfl
    refine two_ (i:=4) (j:=8) (Ni:=some 18) (Nj:=some 5) #[true,true,true,true,true,false,false,false,false,false,false] #[true,true,true,true,false,false,false,false,true,false,false] rfl rfl rfl rfl (two_of HT_.1 (by kernel_rfl)) (by decide) (by decide) (fun K hK=>?_) (fun K hK=>?_)
    ·skip;refine goes_ Try.func24 (by kernel_rfl) rfl #[.agg #[.int .i64 t461,.int .i64 t462,.int .i64 t463],.agg #[.int .i64 t464,.int .i64 t465,.int .i64 t466]] (by rfl) rfl rfl qB90 ?_;with_reducible refine(spec_OrthogonalSum.calls k t461 t462 t463 t464 t465 t466 t467 t468 t471 _ A5.1).mono ?_
     rintro e w15 ⟨v469,rfl,ho0,hb⟩;refine⟨_,rfl,?_⟩;have n0_:=qAm (Kd.R_lower ho0 (below_size qB44));have n1_:=qAm (blk_below (g:=gb459) (o:=.cells #[.int .i64 a0_0,.int .i64 a0_1,.int .i64 a0_2] 36 (0,0)) qB137 hb);have n2_:=qAm (blk_below (g:=gb460) (o:=.cells #[.int .i64 a1_0,.int .i64 a1_1,.int .i64 a1_2] 36 (0,0)) qB138 hb);have n3_:=qAm (below_step qB44 hb);clear BK459 BK460 HB;have HO470:=n0_;have BK459:=n1_;have BK460:=n2_;have HB:=n3_;clear n0_ n1_ n2_ n3_
     (try clear hb)
     (try clear hb2)
     (try clear hk)
     (try clear hi)
     (try clear ho0)
     refine hK.out _ _ ⟨(blk_cell BK459.1 0).trans rfl,(blk_cell BK459.1 1).trans rfl,(blk_cell BK459.1 2).trans rfl,(blk_cell BK460.1 0).trans rfl,(blk_cell BK460.1 1).trans rfl,(blk_cell BK460.1 2).trans rfl⟩ (fun hHeld=>?_);clear hK K;refine norm_ (a':=?_) ?_ ?_;rotate_left
     ·show Act.put _ (some 18) _=_
      simp only [Act.put,qSa,qSb,qSc,i64_w,i32_w];rfl
     refine pure_ (i:=5) (N:=some 13) (v:=?_) (a':=?_) #[true,true,true,true,true,true,false,false,false,false,false] rfl rfl (any_of HT_.1 (by kernel_rfl)) (fun _ _ _ h=>h) (Or.inl ⟨by rfl,?_⟩) ?_ ?_;rotate_left
     ·intro w';go_simp;with_reducible rfl
     rotate_left
     ·simp only [Act.put,qSa,qSb,qSc,i64_w,i32_w];rfl
     refine pure_ (i:=6) (N:=some 19) (v:=?_) (a':=?_) #[true,true,true,true,true,true,true,false,false,false,false] rfl rfl (any_of HT_.1 (by kernel_rfl)) (fun _ _ _ h=>h) (Or.inl ⟨by rfl,?_⟩) ?_ ?_;rotate_left
     ·intro w';go_simp;with_reducible rfl
     rotate_left
     ·simp only [Act.put,qSa,qSb,qSc,i64_w,i32_w];rfl
     refine pure_ (i:=7) (N:=some 20) (v:=?_) (a':=?_) #[true,true,true,true,true,true,true,true,false,false,false] rfl rfl (any_of HT_.1 (by kernel_rfl)) (fun _ _ _ h=>h) (Or.inl ⟨by rfl,?_⟩) ?_ ?_;rotate_left
     ·intro w';go_simp;with_reducible rfl
     rotate_left
     ·simp only [Act.put,qSa,qSb,qSc,i64_w,i32_w];rfl
     refine one_ (i:=8) (N:=some 5) #[true,true,true,true,true,true,true,true,true,false,false] rfl rfl (one_of HT_.1 (by kernel_rfl)) (by decide) (fun K hK=>?_);refine box_step ?hg (N:=5) ?hd (cs:=#[.int .i64 0,.slice none 0 0]) (t:=28) ?hr ?_;(case hd=>rfl);(case hg=>rfl);(case hr=>first|(go_simp;done)|(go_simp;rfl));intro gb472 hg w16 hbox hb;have n0_:=qAm (Kd.R_below qB169 hb);have n1_:=qAm (blk_below (g:=gb459) (o:=.cells #[.int .i64 a0_0,.int .i64 a0_1,.int .i64 a0_2] 36 (0,0)) qB137 hb);have n2_:=qAm (blk_below (g:=gb460) (o:=.cells #[.int .i64 a1_0,.int .i64 a1_1,.int .i64 a1_2] 36 (0,0)) qB138 hb);have n3_:=qAm (below_step qB44 hb);have n4_:=qAm (hbox);have n5_:=qAm ((by rw [hg];exact(below_size qB44):w.heap.size≤gb472));have n6_:=qAm ((by rw [hg];exact(below_size qB44):w.heap.size≤gb472));have n7_:=qAm ((by rw [hg];exact Nat.ne_of_lt (blk_lt (g:=gb459) (o:=.cells #[.int .i64 a0_0,.int .i64 a0_1,.int .i64 a0_2] 36 (0,0)) qB137):gb459≠gb472));have n8_:=qAm ((by rw [hg];exact Nat.ne_of_gt (blk_lt (g:=gb459) (o:=.cells #[.int .i64 a0_0,.int .i64 a0_1,.int .i64 a0_2] 36 (0,0)) qB137):gb472≠gb459));have n9_:=qAm ((by rw [hg];exact Nat.ne_of_lt (blk_lt (g:=gb460) (o:=.cells #[.int .i64 a1_0,.int .i64 a1_1,.int .i64 a1_2] 36 (0,0)) qB138):gb460≠gb472));have n10_:=qAm ((by rw [hg];exact Nat.ne_of_gt (blk_lt (g:=gb460) (o:=.cells #[.int .i64 a1_0,.int .i64 a1_1,.int .i64 a1_2] 36 (0,0)) qB138):gb472≠gb460));clear HO470 BK459 BK460 HB;have HO470:=n0_;have BK459:=n1_;have BK460:=n2_;have HB:=n3_;have BK472:=n4_;have GW472:=n5_;have GE472:=n6_;have NB459_472:=n7_;have NB472_459:=n8_;have NB460_472:=n9_;have NB472_460:=n10_;clear n0_ n1_ n2_ n3_ n4_ n5_ n6_ n7_ n8_ n9_ n10_ hb hbox hg;refine hK.out _ _ ⟨(blk_cell BK459.1 0).trans rfl,(blk_cell BK459.1 1).trans rfl,(blk_cell BK459.1 2).trans rfl,(blk_cell BK460.1 0).trans rfl,(blk_cell BK460.1 1).trans rfl,(blk_cell BK460.1 2).trans rfl⟩ (fun hHeld=>?_);clear hK K;refine norm_ (a':=?_) ?_ ?_;rotate_left
     ·show Act.put _ (some 5) _=_
      simp only [Act.put,qSa,qSb,qSc,i64_w,i32_w];rfl
     exact norm_ qB175 (hCont (v469,gb472) _ ⟨hHeld,qB169,qB137,qB138,qB139,GW472.1,GE472.1,NB459_472.1,NB472_459.1,NB460_472.1,NB472_460.1,qB30⟩)
    ·skip;refine box_step ?hg (N:=5) ?hd (cs:=#[.int .i64 0,.slice none 0 0]) (t:=28) ?hr ?_;(case hd=>rfl);(case hg=>rfl);(case hr=>first|(go_simp;done)|(go_simp;rfl));intro gb472 hg w15 hbox hb;have n0_:=qAm (blk_below (g:=gb459) (o:=.cells #[.int .i64 a0_0,.int .i64 a0_1,.int .i64 a0_2] 36 (0,0)) qB137 hb);have n1_:=qAm (blk_below (g:=gb460) (o:=.cells #[.int .i64 a1_0,.int .i64 a1_1,.int .i64 a1_2] 36 (0,0)) qB138 hb);have n2_:=qAm (below_step qB44 hb);have n3_:=qAm (hbox);have n4_:=qAm ((by rw [hg];exact(below_size qB44):w.heap.size≤gb472));have n5_:=qAm ((by rw [hg];exact(below_size qB44):w.heap.size≤gb472));have n6_:=qAm ((by rw [hg];exact Nat.ne_of_lt (blk_lt (g:=gb459) (o:=.cells #[.int .i64 a0_0,.int .i64 a0_1,.int .i64 a0_2] 36 (0,0)) qB137):gb459≠gb472));have n7_:=qAm ((by rw [hg];exact Nat.ne_of_gt (blk_lt (g:=gb459) (o:=.cells #[.int .i64 a0_0,.int .i64 a0_1,.int .i64 a0_2] 36 (0,0)) qB137):gb472≠gb459));have n8_:=qAm ((by rw [hg];exact Nat.ne_of_lt (blk_lt (g:=gb460) (o:=.cells #[.int .i64 a1_0,.int .i64 a1_1,.int .i64 a1_2] 36 (0,0)) qB138):gb460≠gb472));have n9_:=qAm ((by rw [hg];exact Nat.ne_of_gt (blk_lt (g:=gb460) (o:=.cells #[.int .i64 a1_0,.int .i64 a1_1,.int .i64 a1_2] 36 (0,0)) qB138):gb472≠gb460));clear BK459 BK460 HB;have BK459:=n0_;have BK460:=n1_;have HB:=n2_;have BK472:=n3_;have GW472:=n4_;have GE472:=n5_;have NB459_472:=n6_;have NB472_459:=n7_;have NB460_472:=n8_;have NB472_460:=n9_;clear n0_ n1_ n2_ n3_ n4_ n5_ n6_ n7_ n8_ n9_ hb hbox hg;refine hK.out _ _ ⟨(blk_cell BK459.1 0).trans rfl,(blk_cell BK459.1 1).trans rfl,(blk_cell BK459.1 2).trans rfl,(blk_cell BK460.1 0).trans rfl,(blk_cell BK460.1 1).trans rfl,(blk_cell BK460.1 2).trans rfl⟩ (fun hHeld=>?_);clear hK K;refine norm_ (a':=?_) ?_ ?_;rotate_left
     ·show Act.put _ (some 5) _=_
      simp only [Act.put,qSa,qSb,qSc,i64_w,i32_w];rfl
     refine one_ (i:=4) (N:=some 18) #[true,true,true,true,true,false,false,false,true,false,false] rfl rfl (one_of HT_.1 (by kernel_rfl)) (by decide) (fun K hK=>?_);refine goes_ Try.func24 (by kernel_rfl) rfl #[.agg #[.int .i64 t461,.int .i64 t462,.int .i64 t463],.agg #[.int .i64 t464,.int .i64 t465,.int .i64 t466]] (by rfl) rfl rfl qB90 ?_;with_reducible refine(spec_OrthogonalSum.calls k t461 t462 t463 t464 t465 t466 t467 t468 t471 _ A5.1).mono ?_
     rintro e w16 ⟨v469,rfl,ho0,hb⟩;refine⟨_,rfl,?_⟩;have n0_:=qAm (Kd.R_lower ho0 (below_size qB30));have n1_:=qAm (blk_below (g:=gb459) (o:=.cells #[.int .i64 a0_0,.int .i64 a0_1,.int .i64 a0_2] 36 (0,0)) qB137 hb);have n2_:=qAm (blk_below (g:=gb460) (o:=.cells #[.int .i64 a1_0,.int .i64 a1_1,.int .i64 a1_2] 36 (0,0)) qB138 hb);have n3_:=qAm (blk_below (g:=gb472) (o:=.cells #[.int .i64 0,.slice none 0 0] 28 (0,0)) qB139 hb);have n4_:=qAm (below_step qB30 hb);clear BK459 BK460 BK472 HB;have HO470:=n0_;have BK459:=n1_;have BK460:=n2_;have BK472:=n3_;have HB:=n4_;clear n0_ n1_ n2_ n3_ n4_
     (try clear hb)
     (try clear hb2)
     (try clear hk)
     (try clear hi)
     (try clear ho0)
     refine hK.out _ _ ⟨(blk_cell BK459.1 0).trans rfl,(blk_cell BK459.1 1).trans rfl,(blk_cell BK459.1 2).trans rfl,(blk_cell BK460.1 0).trans rfl,(blk_cell BK460.1 1).trans rfl,(blk_cell BK460.1 2).trans rfl⟩ (fun hHeld=>?_);clear hK K;refine norm_ (a':=?_) ?_ ?_;rotate_left
     ·show Act.put _ (some 18) _=_
      simp only [Act.put,qSa,qSb,qSc,i64_w,i32_w];rfl
     refine pure_ (i:=5) (N:=some 13) (v:=?_) (a':=?_) #[true,true,true,true,true,true,false,false,true,false,false] rfl rfl (any_of HT_.1 (by kernel_rfl)) (fun _ _ _ h=>h) (Or.inl ⟨by rfl,?_⟩) ?_ ?_;rotate_left
     ·intro w';go_simp;with_reducible rfl
     rotate_left
     ·simp only [Act.put,qSa,qSb,qSc,i64_w,i32_w];rfl
     refine pure_ (i:=6) (N:=some 19) (v:=?_) (a':=?_) #[true,true,true,true,true,true,true,false,true,false,false] rfl rfl (any_of HT_.1 (by kernel_rfl)) (fun _ _ _ h=>h) (Or.inl ⟨by rfl,?_⟩) ?_ ?_;rotate_left
     ·intro w';go_simp;with_reducible rfl
     rotate_left
     ·simp only [Act.put,qSa,qSb,qSc,i64_w,i32_w];rfl
     refine pure_ (i:=7) (N:=some 20) (v:=?_) (a':=?_) #[true,true,true,true,true,true,true,true,true,false,false] rfl rfl (any_of HT_.1 (by kernel_rfl)) (fun _ _ _ h=>h) (Or.inl ⟨by rfl,?_⟩) ?_ ?_;rotate_left
     ·intro w';go_simp;with_reducible rfl
     rotate_left
     ·simp only [Act.put,qSa,qSb,qSc,i64_w,i32_w];rfl
     exact norm_ qB175 (hCont (v469,gb472) _ ⟨hHeld,qB169,qB137,qB138,qB139,GW472.1,GE472.1,NB459_472.1,NB472_459.1,NB460_472.1,NB472_460.1,qB30⟩)
   ·skip;refine box_step ?hg (N:=5) ?hd (cs:=#[.int .i64 0,.slice none 0 0]) (t:=28) ?hr ?_;(case hd=>rfl);(case hg=>rfl);(case hr=>first|(go_simp;done)|(go_simp;rfl));intro gb472 hg w14 hbox hb;have n0_:=qAm (blk_below (g:=gb459) (o:=.cells #[.int .i64 a0_0,.int .i64 a0_1,.int .i64 a0_2] 36 (0,0)) qB137 hb);have n1_:=qAm (blk_below (g:=gb460) (o:=.cells #[.int .i64 a1_0,.int .i64 a1_1,.int .i64 a1_2] 36 (0,0)) qB138 hb);have n2_:=qAm (below_step qB44 hb);have n3_:=qAm (hbox);have n4_:=qAm ((by rw [hg];exact(below_size qB44):w.heap.size≤gb472));have n5_:=qAm ((by rw [hg];exact(below_size qB44):w.heap.size≤gb472));have n6_:=qAm ((by rw [hg];exact Nat.ne_of_lt (blk_lt (g:=gb459) (o:=.cells #[.int .i64 a0_0,.int .i64 a0_1,.int .i64 a0_2] 36 (0,0)) qB137):gb459≠gb472));have n7_:=qAm ((by rw [hg];exact Nat.ne_of_gt (blk_lt (g:=gb459) (o:=.cells #[.int .i64 a0_0,.int .i64 a0_1,.int .i64 a0_2] 36 (0,0)) qB137):gb472≠gb459));have n8_:=qAm ((by rw [hg];exact Nat.ne_of_lt (blk_lt (g:=gb460) (o:=.cells #[.int .i64 a1_0,.int .i64 a1_1,.int .i64 a1_2] 36 (0,0)) qB138):gb460≠gb472));have n9_:=qAm ((by rw [hg];exact Nat.ne_of_gt (blk_lt (g:=gb460) (o:=.cells #[.int .i64 a1_0,.int .i64 a1_1,.int .i64 a1_2] 36 (0,0)) qB138):gb472≠gb460));clear BK459 BK460 HB;have BK459:=n0_;have BK460:=n1_;have HB:=n2_;have BK472:=n3_;have GW472:=n4_;have GE472:=n5_;have NB459_472:=n6_;have NB472_459:=n7_;have NB460_472:=n8_;have NB472_460:=n9_;clear n0_ n1_ n2_ n3_ n4_ n5_ n6_ n7_ n8_ n9_ hb hbox hg;refine hK.out _ _ ⟨(blk_cell BK459.1 0).trans rfl,(blk_cell BK459.1 1).trans rfl,(blk_cell BK459.1 2).trans rfl,(blk_cell BK460.1 0).trans rfl,(blk_cell BK460.1 1).trans rfl,(blk_cell BK460.1 2).trans rfl⟩ (fun hHeld=>?_);clear hK K;refine norm_ (a':=?_) ?_ ?_;rotate_left
    ·show Act.put _ (some 5) _=_
     simp only [Act.put,qSa,qSb,qSc,i64_w,i32_w];rfl
    refine one_ (i:=3) (N:=some 17) #[true,true,true,true,false,false,false,false,true,false,false] rfl rfl (one_of HT_.1 (by kernel_rfl)) (by decide) (fun K hK=>?_);refine goes_ Try.func19 (by kernel_rfl) rfl #[.agg #[.int .i64 a1_0,.int .i64 a1_1,.int .i64 a1_2]] (by rfl) rfl rfl qB90 ?_;with_reducible refine(laws_toCharacter.calls a1_0 a1_1 a1_2 t464 t465 t466 _ A4.1).mono ?_
    rintro e w15 ⟨rfl,hb⟩;refine⟨_,rfl,?_⟩;have n0_:=qAm (blk_below (g:=gb459) (o:=.cells #[.int .i64 a0_0,.int .i64 a0_1,.int .i64 a0_2] 36 (0,0)) qB137 hb);have n1_:=qAm (blk_below (g:=gb460) (o:=.cells #[.int .i64 a1_0,.int .i64 a1_1,.int .i64 a1_2] 36 (0,0)) qB138 hb);have n2_:=qAm (blk_below (g:=gb472) (o:=.cells #[.int .i64 0,.slice none 0 0] 28 (0,0)) qB139 hb);have n3_:=qAm (below_step qB30 hb);clear BK459 BK460 BK472 HB;have BK459:=n0_;have BK460:=n1_;have BK472:=n2_;have HB:=n3_;clear n0_ n1_ n2_ n3_
    (try clear hb)
    (try clear hb2)
    (try clear hk)
    (try clear hi)
    refine hK.out _ _ ⟨(blk_cell BK459.1 0).trans rfl,(blk_cell BK459.1 1).trans rfl,(blk_cell BK459.1 2).trans rfl,(blk_cell BK460.1 0).trans rfl,(blk_cell BK460.1 1).trans rfl,(blk_cell BK460.1 2).trans rfl⟩ (fun hHeld=>?_);clear hK K;refine norm_ (a':=?_) ?_ ?_;rotate_left
    ·show Act.put _ (some 17) _=_
     simp only [Act.put,qSa,qSb,qSc,i64_w,i32_w];rfl
    refine one_ (i:=4) (N:=some 18) #[true,true,true,true,true,false,false,false,true,false,false] rfl rfl (one_of HT_.1 (by kernel_rfl)) (by decide) (fun K hK=>?_);refine goes_ Try.func24 (by kernel_rfl) rfl #[.agg #[.int .i64 t461,.int .i64 t462,.int .i64 t463],.agg #[.int .i64 t464,.int .i64 t465,.int .i64 t466]] (by rfl) rfl rfl qB90 ?_;with_reducible refine(spec_OrthogonalSum.calls k t461 t462 t463 t464 t465 t466 t467 t468 t471 _ A5.1).mono ?_
    rintro e w16 ⟨v469,rfl,ho0,hb⟩;refine⟨_,rfl,?_⟩;have n0_:=qAm (Kd.R_lower ho0 (below_size qB30));have n1_:=qAm (blk_below (g:=gb459) (o:=.cells #[.int .i64 a0_0,.int .i64 a0_1,.int .i64 a0_2] 36 (0,0)) qB137 hb);have n2_:=qAm (blk_below (g:=gb460) (o:=.cells #[.int .i64 a1_0,.int .i64 a1_1,.int .i64 a1_2] 36 (0,0)) qB138 hb);have n3_:=qAm (blk_below (g:=gb472) (o:=.cells #[.int .i64 0,.slice none 0 0] 28 (0,0)) qB139 hb);have n4_:=qAm (below_step qB30 hb);clear BK459 BK460 BK472 HB;have HO470:=n0_;have BK459:=n1_;have BK460:=n2_;have BK472:=n3_;have HB:=n4_;clear n0_ n1_ n2_ n3_ n4_
    (try clear hb)
    (try clear hb2)
    (try clear hk)
    (try clear hi)
    (try clear ho0)
    refine hK.out _ _ ⟨(blk_cell BK459.1 0).trans rfl,(blk_cell BK459.1 1).trans rfl,(blk_cell BK459.1 2).trans rfl,(blk_cell BK460.1 0).trans rfl,(blk_cell BK460.1 1).trans rfl,(blk_cell BK460.1 2).trans rfl⟩ (fun hHeld=>?_);clear hK K;refine norm_ (a':=?_) ?_ ?_;rotate_left
    ·show Act.put _ (some 18) _=_
     simp only [Act.put,qSa,qSb,qSc,i64_w,i32_w];rfl
    refine pure_ (i:=5) (N:=some 13) (v:=?_) (a':=?_) #[true,true,true,true,true,true,false,false,true,false,false] rfl rfl (any_of HT_.1 (by kernel_rfl)) (fun _ _ _ h=>h) (Or.inl ⟨by rfl,?_⟩) ?_ ?_;rotate_left
    ·intro w';go_simp;with_reducible rfl
    rotate_left
    ·simp only [Act.put,qSa,qSb,qSc,i64_w,i32_w];rfl
    refine pure_ (i:=6) (N:=some 19) (v:=?_) (a':=?_) #[true,true,true,true,true,true,true,false,true,false,false] rfl rfl (any_of HT_.1 (by kernel_rfl)) (fun _ _ _ h=>h) (Or.inl ⟨by rfl,?_⟩) ?_ ?_;rotate_left
    ·intro w';go_simp;with_reducible rfl
    rotate_left
    ·simp only [Act.put,qSa,qSb,qSc,i64_w,i32_w];rfl
    refine pure_ (i:=7) (N:=some 20) (v:=?_) (a':=?_) #[true,true,true,true,true,true,true,true,true,false,false] rfl rfl (any_of HT_.1 (by kernel_rfl)) (fun _ _ _ h=>h) (Or.inl ⟨by rfl,?_⟩) ?_ ?_;rotate_left
    ·intro w';go_simp;with_reducible rfl
    rotate_left
    ·simp only [Act.put,qSa,qSb,qSc,i64_w,i32_w];rfl
    exact norm_ qB175 (hCont (v469,gb472) _ ⟨hHeld,qB169,qB137,qB138,qB139,GW472.1,GE472.1,NB459_472.1,NB472_459.1,NB460_472.1,NB472_460.1,qB30⟩)
  ·skip;refine box_step ?hg (N:=5) ?hd (cs:=#[.int .i64 0,.slice none 0 0]) (t:=28) ?hr ?_;(case hd=>rfl);(case hg=>rfl);(case hr=>first|(go_simp;done)|(go_simp;rfl));intro gb472 hg w13 hbox hb;have n0_:=qAm (blk_below (g:=gb459) (o:=.cells #[.int .i64 a0_0,.int .i64 a0_1,.int .i64 a0_2] 36 (0,0)) qB137 hb);have n1_:=qAm (blk_below (g:=gb460) (o:=.cells #[.int .i64 a1_0,.int .i64 a1_1,.int .i64 a1_2] 36 (0,0)) qB138 hb);have n2_:=qAm (below_step qB44 hb);have n3_:=qAm (hbox);have n4_:=qAm ((by rw [hg];exact(below_size qB44):w.heap.size≤gb472));have n5_:=qAm ((by rw [hg];exact(below_size qB44):w.heap.size≤gb472));have n6_:=qAm ((by rw [hg];exact Nat.ne_of_lt (blk_lt (g:=gb459) (o:=.cells #[.int .i64 a0_0,.int .i64 a0_1,.int .i64 a0_2] 36 (0,0)) qB137):gb459≠gb472));have n7_:=qAm ((by rw [hg];exact Nat.ne_of_gt (blk_lt (g:=gb459) (o:=.cells #[.int .i64 a0_0,.int .i64 a0_1,.int .i64 a0_2] 36 (0,0)) qB137):gb472≠gb459));have n8_:=qAm ((by rw [hg];exact Nat.ne_of_lt (blk_lt (g:=gb460) (o:=.cells #[.int .i64 a1_0,.int .i64 a1_1,.int .i64 a1_2] 36 (0,0)) qB138):gb460≠gb472));have n9_:=qAm ((by rw [hg];exact Nat.ne_of_gt (blk_lt (g:=gb460) (o:=.cells #[.int .i64 a1_0,.int .i64 a1_1,.int .i64 a1_2] 36 (0,0)) qB138):gb472≠gb460));clear BK459 BK460 HB;have BK459:=n0_;have BK460:=n1_;have HB:=n2_;have BK472:=n3_;have GW472:=n4_;have GE472:=n5_;have NB459_472:=n6_;have NB472_459:=n7_;have NB460_472:=n8_;have NB472_460:=n9_;clear n0_ n1_ n2_ n3_ n4_ n5_ n6_ n7_ n8_ n9_ hb hbox hg;refine hK.out _ _ ⟨(blk_cell BK459.1 0).trans rfl,(blk_cell BK459.1 1).trans rfl,(blk_cell BK459.1 2).trans rfl,(blk_cell BK460.1 0).trans rfl,(blk_cell BK460.1 1).trans rfl,(blk_cell BK460.1 2).trans rfl⟩ (fun hHeld=>?_);clear hK K;refine norm_ (a':=?_) ?_ ?_;rotate_left
   ·show Act.put _ (some 5) _=_
    simp only [Act.put,qSa,qSb,qSc,i64_w,i32_w];rfl
   refine one_ (i:=1) (N:=some 15) #[true,true,true,false,false,false,false,false,true,false,false] rfl rfl (one_of HT_.1 (by kernel_rfl)) (by decide) (fun K hK=>?_);refine goes_ Try.func19 (by kernel_rfl) rfl #[.agg #[.int .i64 a0_0,.int .i64 a0_1,.int .i64 a0_2]] (by rfl) rfl rfl qB90 ?_;with_reducible refine(laws_toCharacter.calls a0_0 a0_1 a0_2 t461 t462 t463 _ A3.1).mono ?_
   rintro e w14 ⟨rfl,hb⟩;refine⟨_,rfl,?_⟩;have n0_:=qAm (blk_below (g:=gb459) (o:=.cells #[.int .i64 a0_0,.int .i64 a0_1,.int .i64 a0_2] 36 (0,0)) qB137 hb);have n1_:=qAm (blk_below (g:=gb460) (o:=.cells #[.int .i64 a1_0,.int .i64 a1_1,.int .i64 a1_2] 36 (0,0)) qB138 hb);have n2_:=qAm (blk_below (g:=gb472) (o:=.cells #[.int .i64 0,.slice none 0 0] 28 (0,0)) qB139 hb);have n3_:=qAm (below_step qB30 hb);clear BK459 BK460 BK472 HB;have BK459:=n0_;have BK460:=n1_;have BK472:=n2_;have HB:=n3_;clear n0_ n1_ n2_ n3_
   (try clear hb)
   (try clear hb2)
   (try clear hk)
   (try clear hi)
   refine hK.out _ _ ⟨(blk_cell BK459.1 0).trans rfl,(blk_cell BK459.1 1).trans rfl,(blk_cell BK459.1 2).trans rfl,(blk_cell BK460.1 0).trans rfl,(blk_cell BK460.1 1).trans rfl,(blk_cell BK460.1 2).trans rfl⟩ (fun hHeld=>?_);clear hK K;refine norm_ (a':=?_) ?_ ?_;rotate_left
   ·show Act.put _ (some 15) _=_
    simp only [Act.put,qSa,qSb,qSc,i64_w,i32_w];rfl
   refine one_ (i:=3) (N:=some 17) #[true,true,true,true,false,false,false,false,true,false,false] rfl rfl (one_of HT_.1 (by kernel_rfl)) (by decide) (fun K hK=>?_);refine goes_ Try.func19 (by kernel_rfl) rfl #[.agg #[.int .i64 a1_0,.int .i64 a1_1,.int .i64 a1_2]] (by rfl) rfl rfl qB90 ?_;with_reducible refine(laws_toCharacter.calls a1_0 a1_1 a1_2 t464 t465 t466 _ A4.1).mono ?_
   rintro e w15 ⟨rfl,hb⟩;refine⟨_,rfl,?_⟩;have n0_:=qAm (blk_below (g:=gb459) (o:=.cells #[.int .i64 a0_0,.int .i64 a0_1,.int .i64 a0_2] 36 (0,0)) qB137 hb);have n1_:=qAm (blk_below (g:=gb460) (o:=.cells #[.int .i64 a1_0,.int .i64 a1_1,.int .i64 a1_2] 36 (0,0)) qB138 hb);have n2_:=qAm (blk_below (g:=gb472) (o:=.cells #[.int .i64 0,.slice none 0 0] 28 (0,0)) qB139 hb);have n3_:=qAm (below_step qB30 hb);clear BK459 BK460 BK472 HB;have BK459:=n0_;have BK460:=n1_;have BK472:=n2_;have HB:=n3_;clear n0_ n1_ n2_ n3_
   (try clear hb)
   (try clear hb2)
   (try clear hk)
   (try clear hi)
   refine hK.out _ _ ⟨(blk_cell BK459.1 0).trans rfl,(blk_cell BK459.1 1).trans rfl,(blk_cell BK459.1 2).trans rfl,(blk_cell BK460.1 0).trans rfl,(blk_cell BK460.1 1).trans rfl,(blk_cell BK460.1 2).trans rfl⟩ (fun hHeld=>?_);clear hK K;refine norm_ (a':=?_) ?_ ?_;rotate_left
   ·show Act.put _ (some 17) _=_
    simp only [Act.put,qSa,qSb,qSc,i64_w,i32_w];rfl
   refine one_ (i:=4) (N:=some 18) #[true,true,true,true,true,false,false,false,true,false,false] rfl rfl (one_of HT_.1 (by kernel_rfl)) (by decide) (fun K hK=>?_);refine goes_ Try.func24 (by kernel_rfl) rfl #[.agg #[.int .i64 t461,.int .i64 t462,.int .i64 t463],.agg #[.int .i64 t464,.int .i64 t465,.int .i64 t466]] (by rfl) rfl rfl qB90 ?_;with_reducible refine(spec_OrthogonalSum.calls k t461 t462 t463 t464 t465 t466 t467 t468 t471 _ A5.1).mono ?_
   rintro e w16 ⟨v469,rfl,ho0,hb⟩;refine⟨_,rfl,?_⟩;have n0_:=qAm (Kd.R_lower ho0 (below_size qB30));have n1_:=qAm (blk_below (g:=gb459) (o:=.cells #[.int .i64 a0_0,.int .i64 a0_1,.int .i64 a0_2] 36 (0,0)) qB137 hb);have n2_:=qAm (blk_below (g:=gb460) (o:=.cells #[.int .i64 a1_0,.int .i64 a1_1,.int .i64 a1_2] 36 (0,0)) qB138 hb);have n3_:=qAm (blk_below (g:=gb472) (o:=.cells #[.int .i64 0,.slice none 0 0] 28 (0,0)) qB139 hb);have n4_:=qAm (below_step qB30 hb);clear BK459 BK460 BK472 HB;have HO470:=n0_;have BK459:=n1_;have BK460:=n2_;have BK472:=n3_;have HB:=n4_;clear n0_ n1_ n2_ n3_ n4_
   (try clear hb)
   (try clear hb2)
   (try clear hk)
   (try clear hi)
   (try clear ho0)
   refine hK.out _ _ ⟨(blk_cell BK459.1 0).trans rfl,(blk_cell BK459.1 1).trans rfl,(blk_cell BK459.1 2).trans rfl,(blk_cell BK460.1 0).trans rfl,(blk_cell BK460.1 1).trans rfl,(blk_cell BK460.1 2).trans rfl⟩ (fun hHeld=>?_);clear hK K;refine norm_ (a':=?_) ?_ ?_;rotate_left
   ·show Act.put _ (some 18) _=_
    simp only [Act.put,qSa,qSb,qSc,i64_w,i32_w];rfl
   refine pure_ (i:=5) (N:=some 13) (v:=?_) (a':=?_) #[true,true,true,true,true,true,false,false,true,false,false] rfl rfl (any_of HT_.1 (by kernel_rfl)) (fun _ _ _ h=>h) (Or.inl ⟨by rfl,?_⟩) ?_ ?_;rotate_left
   ·intro w';go_simp;with_reducible rfl
   rotate_left
   ·simp only [Act.put,qSa,qSb,qSc,i64_w,i32_w];rfl
   refine pure_ (i:=6) (N:=some 19) (v:=?_) (a':=?_) #[true,true,true,true,true,true,true,false,true,false,false] rfl rfl (any_of HT_.1 (by kernel_rfl)) (fun _ _ _ h=>h) (Or.inl ⟨by rfl,?_⟩) ?_ ?_;rotate_left
   ·intro w';go_simp;with_reducible rfl
   rotate_left
   ·simp only [Act.put,qSa,qSb,qSc,i64_w,i32_w];rfl
   refine pure_ (i:=7) (N:=some 20) (v:=?_) (a':=?_) #[true,true,true,true,true,true,true,true,true,false,false] rfl rfl (any_of HT_.1 (by kernel_rfl)) (fun _ _ _ h=>h) (Or.inl ⟨by rfl,?_⟩) ?_ ?_;rotate_left
   ·intro w';go_simp;with_reducible rfl
   rotate_left
   ·simp only [Act.put,qSa,qSb,qSc,i64_w,i32_w];rfl
   exact norm_ qB175 (hCont (v469,gb472) _ ⟨hHeld,qB169,qB137,qB138,qB139,GW472.1,GE472.1,NB459_472.1,NB472_459.1,NB460_472.1,NB472_460.1,qB30⟩)
 rintro⟨v469,gb472⟩ w17 ⟨hS_,h0_,h1_,h2_,h3_,h4_,h5_,h6_,h7_,h8_,h9_,h10_⟩;have n0_:Aside0 (Kd.R (Kd.int .i64) 2 w17 w.heap.size (fun _=>True) v469 t468):=⟨h0_⟩
 have n1_:Aside0 (w17.heap[gb459]? =some (.cells #[.int .i64 a0_0,.int .i64 a0_1,.int .i64 a0_2] 36 (0,0))):=⟨h1_⟩
 have n2_:Aside0 (w17.heap[gb460]? =some (.cells #[.int .i64 a1_0,.int .i64 a1_1,.int .i64 a1_2] 36 (0,0))):=⟨h2_⟩
 have n3_:Aside0 (w17.heap[gb472]? =some (.cells #[.int .i64 0,.slice none 0 0] 28 (0,0))):=⟨h3_⟩
 have n4_:Aside0 (w.heap.size≤gb472):=⟨h4_⟩
 have n5_:Aside0 (w.heap.size≤gb472):=⟨h5_⟩
 have n6_:Aside0 (gb459≠gb472):=⟨h6_⟩
 have n7_:Aside0 (gb472≠gb459):=⟨h7_⟩
 have n8_:Aside0 (gb460≠gb472):=⟨h8_⟩
 have n9_:Aside0 (gb472≠gb460):=⟨h9_⟩
 have n10_:Aside0 (Below w.heap.size w w17):=⟨h10_⟩
 clear BK459 BK460 HB h0_ h1_ h2_ h3_ h4_ h5_ h6_ h7_ h8_ h9_ h10_;have HO470:=n0_;have BK459:=n1_;have BK460:=n2_;have BK472:=n3_;have GW472:=n4_;have GE472:=n5_;have NB459_472:=n6_;have NB472_459:=n7_;have NB460_472:=n8_;have NB472_460:=n9_;have HB:=n10_;clear n0_ n1_ n2_ n3_ n4_ n5_ n6_ n7_ n8_ n9_ n10_;have hHeld:w17.cell? ⟨gb459,0,none⟩=some (.int .i64 a0_0)∧w17.cell? ⟨gb459,1,none⟩=some (.int .i64 a0_1)∧w17.cell? ⟨gb459,2,none⟩=some (.int .i64 a0_2)∧w17.cell? ⟨gb460,0,none⟩=some (.int .i64 a1_0)∧w17.cell? ⟨gb460,1,none⟩=some (.int .i64 a1_1)∧w17.cell? ⟨gb460,2,none⟩=some (.int .i64 a1_2):=hS_;obtain⟨Ao19,co19,eo19⟩:=Kd.R_slice HO470.1
 (first|subst eo19|(injection eo19 with f1_ f2_ f3_;have f4_:=f1_.symm;have f5_:=f3_.symm;clear f1_ f2_ f3_;subst f4_;subst f5_))
 refine norm_ (a':=?_) ?_ ?_;rotate_left
 ·simp only [putAll,Act.put,qSa,qSb,qSc];rfl
 refine one_ (i:=9) (N:=none) #[true,true,true,true,true,true,true,true,true,true,false] rfl rfl (one_of HT_.1 (by kernel_rfl)) (by decide) (fun K hK=>?_);have hs18:w17.cell? ⟨gb472,0,none⟩=some (.int .i64 0):=(blk_cell BK472.1 0).trans rfl;have hfs18:=blk_frozen BK472.1 0;have hns18_0:=NB459_472.1;have hns18_1:=NB460_472.1;have hms18_0:=NB472_459.1;have hms18_1:=NB472_460.1;have hs20:w17.cell? ⟨gb472,1,none⟩=some (.slice none 0 0):=(blk_cell BK472.1 1).trans rfl;have hfs20:=blk_frozen BK472.1 1;have hns20_0:=NB459_472.1;have hns20_1:=NB460_472.1;have hms20_0:=NB472_459.1;have hms20_1:=NB472_460.1;refine skip_ (w1:=?_) (by rfl) rfl ?_ ?_;rotate_left
 ·go_simp;rfl
 refine hK.out _ _ ⟨((cell_far (p:=⟨gb472,_,none⟩) NB459_472.1 _).trans (((cell_far (p:=⟨gb472,_,none⟩) NB459_472.1 _).trans (hHeld.1)))),((cell_far (p:=⟨gb472,_,none⟩) NB459_472.1 _).trans (((cell_far (p:=⟨gb472,_,none⟩) NB459_472.1 _).trans (hHeld.2.1)))),((cell_far (p:=⟨gb472,_,none⟩) NB459_472.1 _).trans (((cell_far (p:=⟨gb472,_,none⟩) NB459_472.1 _).trans (hHeld.2.2.1)))),((cell_far (p:=⟨gb472,_,none⟩) NB460_472.1 _).trans (((cell_far (p:=⟨gb472,_,none⟩) NB460_472.1 _).trans (hHeld.2.2.2.1)))),((cell_far (p:=⟨gb472,_,none⟩) NB460_472.1 _).trans (((cell_far (p:=⟨gb472,_,none⟩) NB460_472.1 _).trans (hHeld.2.2.2.2.1)))),((cell_far (p:=⟨gb472,_,none⟩) NB460_472.1 _).trans (((cell_far (p:=⟨gb472,_,none⟩) NB460_472.1 _).trans (hHeld.2.2.2.2.2))))⟩ (fun hHeld=>?_);clear hK K;refine pure_ (i:=10) (N:=some 6) (v:=?_) (a':=?_) #[true,true,true,true,true,true,true,true,true,true,true] rfl rfl (any_of HT_.1 (by kernel_rfl)) (fun _ _ _ h=>h) (Or.inl ⟨by rfl,?_⟩) ?_ ?_;rotate_left
 ·intro w';go_simp;with_reducible rfl
 rotate_left
 ·simp only [Act.put,qSa,qSb,qSc,i64_w,i32_w];rfl
 refine done_ (done_of HT_.1 (by kernel_rfl)) ?_;try go_wp2
 have n0_:Aside0 (Kd.R (Kd.int .i64) 2 ((w17.setCell ⟨gb472,0,none⟩ (.int .i64 t467)).setCell ⟨gb472,1,none⟩ (.slice Ao19 t468.length co19)) w.heap.size (fun _=>True) (.slice Ao19 t468.length co19) t468):=⟨by (with_reducible repeat(first|apply Kd.R_alloc|apply Kd.R_drewN|apply Kd.R_drew));exact Kd.R_mono (Kd.R_far (p:=⟨gb472,1,none⟩) (Kd.R_far (p:=⟨gb472,0,none⟩) (Kd.R_types HO470.1 BK472.1 (by decide)) (fun _ hk=>hk.2) (.int .i64 t467)) (fun _ hk=>hk.2) (.slice Ao19 t468.length co19)) (fun _ hk=>trivial)⟩
 have n1_:Aside0 (((w17.setCell ⟨gb472,0,none⟩ (.int .i64 t467)).setCell ⟨gb472,1,none⟩ (.slice Ao19 t468.length co19)).heap[gb459]? =some (.cells #[.int .i64 a0_0,.int .i64 a0_1,.int .i64 a0_2] 36 (0,0))):=⟨by (with_reducible repeat(first|refine blk_drewN ?_ _|refine blk_drew ?_|refine blk_alloc ?_ _));refine blk_far ?_ NB459_472.1 _;(with_reducible repeat(first|refine blk_drewN ?_ _|refine blk_drew ?_|refine blk_alloc ?_ _));refine blk_far ?_ NB459_472.1 _;(with_reducible repeat(first|refine blk_drewN ?_ _|refine blk_drew ?_|refine blk_alloc ?_ _));exact BK459.1⟩
 have n2_:Aside0 (((w17.setCell ⟨gb472,0,none⟩ (.int .i64 t467)).setCell ⟨gb472,1,none⟩ (.slice Ao19 t468.length co19)).heap[gb460]? =some (.cells #[.int .i64 a1_0,.int .i64 a1_1,.int .i64 a1_2] 36 (0,0))):=⟨by (with_reducible repeat(first|refine blk_drewN ?_ _|refine blk_drew ?_|refine blk_alloc ?_ _));refine blk_far ?_ NB460_472.1 _;(with_reducible repeat(first|refine blk_drewN ?_ _|refine blk_drew ?_|refine blk_alloc ?_ _));refine blk_far ?_ NB460_472.1 _;(with_reducible repeat(first|refine blk_drewN ?_ _|refine blk_drew ?_|refine blk_alloc ?_ _));exact BK460.1⟩
 have n3_:Aside0 (((w17.setCell ⟨gb472,0,none⟩ (.int .i64 t467)).setCell ⟨gb472,1,none⟩ (.slice Ao19 t468.length co19)).heap[gb472]? =some (.cells #[.int .i64 t467,.slice Ao19 t468.length co19] 28 (0,0))):=⟨by (with_reducible repeat(first|refine blk_drewN ?_ _|refine blk_drew ?_|refine blk_alloc ?_ _));refine blk_put (cs:=#[.int .i64 t467,.slice none 0 0]) ?_ 1 _ rfl;(with_reducible repeat(first|refine blk_drewN ?_ _|refine blk_drew ?_|refine blk_alloc ?_ _));refine blk_put (cs:=#[.int .i64 0,.slice none 0 0]) ?_ 0 _ rfl;(with_reducible repeat(first|refine blk_drewN ?_ _|refine blk_drew ?_|refine blk_alloc ?_ _));exact BK472.1⟩
 have n4_:Aside0 (Below w.heap.size w ((w17.setCell ⟨gb472,0,none⟩ (.int .i64 t467)).setCell ⟨gb472,1,none⟩ (.slice Ao19 t468.length co19))):=⟨by repeat(first|(with_reducible first|exact HB.1|apply below_alloc|apply pw_below_drewN|apply below_drew1|refine below_set ?_ GE459.1|refine below_set ?_ GE460.1|refine below_set ?_ GE472.1)|exact HB.1)⟩
 (try clear HO470)
 (try clear BK459)
 (try clear BK460)
 (try clear BK472)
 (try clear HB)
 generalize ((w17.setCell ⟨gb472,0,none⟩ (.int .i64 t467)).setCell ⟨gb472,1,none⟩ (.slice Ao19 t468.length co19))=w21 at n0_ n1_ n2_ n3_ n4_ ⊢;have HO470:=n0_;have BK459:=n1_;have BK460:=n2_;have BK472:=n3_;have HB:=n4_;clear n0_ n1_ n2_ n3_ n4_;have n0_:=qAm (Kd.R_drew HO470.1);have n1_:=qAm (blk_drew BK459.1);have n2_:=qAm (blk_drew BK460.1);have n3_:=qAm (blk_drew BK472.1);have n4_:=qAm (below_drew1 HB.1);clear HO470 BK459 BK460 BK472 HB;have HO470:=n0_;have BK459:=n1_;have BK460:=n2_;have BK472:=n3_;have HB:=n4_;clear n0_ n1_ n2_ n3_ n4_;refine start_ (n:=11) (S:=fun w'=>w'.cell? ⟨gb459,0,none⟩=some (.int .i64 a0_0)∧w'.cell? ⟨gb459,1,none⟩=some (.int .i64 a0_1)∧w'.cell? ⟨gb459,2,none⟩=some (.int .i64 a0_2)∧w'.cell? ⟨gb460,0,none⟩=some (.int .i64 a1_0)∧w'.cell? ⟨gb460,1,none⟩=some (.int .i64 a1_1)∧w'.cell? ⟨gb460,2,none⟩=some (.int .i64 a1_2)) (ds:=[]) #[false,false,false,false,false,false,false,false,false,false,false] (by kernel_rfl) rfl rfl ⟨(blk_cell BK459.1 0).trans rfl,(blk_cell BK459.1 1).trans rfl,(blk_cell BK459.1 2).trans rfl,(blk_cell BK460.1 0).trans rfl,(blk_cell BK460.1 1).trans rfl,(blk_cell BK460.1 2).trans rfl⟩ (fun hHeld=>?_);refine with_tabW laws_FnExactOrthogonalSum.tab2 laws_FnExactOrthogonalSum.bits2 (fun HT_ HW_=>?_);generalize w21.drew=w22 at HO470 BK459 BK460 BK472 HB hHeld ⊢;refine take_ (i:=0) (N:=some 22) (v:=?_) (a':=?_) #[true,false,false,false,false,false,false,false,false,false,false] rfl rfl (take_ofW HT_.1 HW_.1 (by kernel_rfl)) (fun _ _ _ h=>h) (Or.inl ⟨by rfl,?_⟩) hHeld ?_ ?_;rotate_left
 ·rintro w' ⟨s0,s1,s2,s3,s4,s5⟩;go_simp;with_reducible rfl
 rotate_left
 ·simp only [Act.put,qSa,qSb,qSc,i64_w,i32_w];rfl
 refine take_ (i:=2) (N:=some 24) (v:=?_) (a':=?_) #[true,false,true,false,false,false,false,false,false,false,false] rfl rfl (take_ofW HT_.1 HW_.1 (by kernel_rfl)) (fun _ _ _ h=>h) (Or.inl ⟨by rfl,?_⟩) hHeld ?_ ?_;rotate_left
 ·rintro w' ⟨s0,s1,s2,s3,s4,s5⟩;go_simp;with_reducible rfl
 rotate_left
 ·simp only [Act.put,qSa,qSb,qSc,i64_w,i32_w];rfl
 refine join_ (σ:=Value×Nat) 2 #[true,true,true,true,true,true,true,true,true,false,false] (fun s_=>[(23,.agg #[.int .i64 t473,.int .i64 t474,.int .i64 t475]),(25,.agg #[.int .i64 t476,.int .i64 t477,.int .i64 t478]),(26,.tuple #[.agg #[.int .i64 t479,s_.1],.int .i64 t483]),(7,.pointer (some ⟨s_.2,0,none⟩)),(21,.tuple #[.agg #[.int .i64 t479,s_.1],.int .i64 t483]),(27,.agg #[.int .i64 t479,s_.1]),(28,.int .i64 t483)]) (fun s_ w'=>(w'.cell? ⟨gb459,0,none⟩=some (.int .i64 a0_0)∧w'.cell? ⟨gb459,1,none⟩=some (.int .i64 a0_1)∧w'.cell? ⟨gb459,2,none⟩=some (.int .i64 a0_2)∧w'.cell? ⟨gb460,0,none⟩=some (.int .i64 a1_0)∧w'.cell? ⟨gb460,1,none⟩=some (.int .i64 a1_1)∧w'.cell? ⟨gb460,2,none⟩=some (.int .i64 a1_2))∧(Kd.R (Kd.int .i64) 2 w' w.heap.size (fun k_=>some k_≠(s_.1:Value).ownBlock) (.slice Ao19 t468.length co19) t468)∧(Kd.R (Kd.int .i64) 2 w' w.heap.size (fun k_=>some k_≠(.slice Ao19 t468.length co19:Value).ownBlock) s_.1 t480)∧(w'.heap[gb459]? =some (.cells #[.int .i64 a0_0,.int .i64 a0_1,.int .i64 a0_2] 36 (0,0)))∧(w'.heap[gb460]? =some (.cells #[.int .i64 a1_0,.int .i64 a1_1,.int .i64 a1_2] 36 (0,0)))∧(w'.heap[gb472]? =some (.cells #[.int .i64 t467,.slice Ao19 t468.length co19] 28 (0,0)))∧(w'.heap[s_.2]? =some (.cells #[.int .i64 0,.slice none 0 0] 28 (0,0)))∧(w.heap.size≤s_.2)∧(w.heap.size≤s_.2)∧(gb459≠s_.2)∧(s_.2≠gb459)∧(gb460≠s_.2)∧(s_.2≠gb460)∧(gb472≠s_.2)∧(s_.2≠gb472)∧(Below w.heap.size w w')) ?_ ?_;rotate_left
 ·intro hCont;refine two_ (i:=1) (j:=8) (Ni:=some 23) (Nj:=some 7) #[true,true,true,false,false,false,false,false,false,false,false] #[true,false,true,false,false,false,false,false,true,false,false] rfl rfl rfl rfl (two_of HT_.1 (by kernel_rfl)) (by decide) (by decide) (fun K hK=>?_) (fun K hK=>?_)
  ·skip;refine goes_ Try.func19 (by kernel_rfl) rfl #[.agg #[.int .i64 a0_0,.int .i64 a0_1,.int .i64 a0_2]] (by rfl) rfl rfl qB90 ?_;with_reducible refine(laws_toCharacter.calls a0_0 a0_1 a0_2 t473 t474 t475 _ A6.1).mono ?_
   rintro e w23 ⟨rfl,hb⟩;refine⟨_,rfl,?_⟩;have n0_:=qAm (Kd.R_below qB169 hb);have n1_:=qAm (blk_below (g:=gb459) (o:=.cells #[.int .i64 a0_0,.int .i64 a0_1,.int .i64 a0_2] 36 (0,0)) qB137 hb);have n2_:=qAm (blk_below (g:=gb460) (o:=.cells #[.int .i64 a1_0,.int .i64 a1_1,.int .i64 a1_2] 36 (0,0)) qB138 hb);have n3_:=qAm (blk_below (g:=gb472) (o:=.cells #[.int .i64 t467,.slice Ao19 t468.length co19] 28 (0,0)) qB139 hb);have n4_:=qAm (below_step qB30 hb);clear HO470 BK459 BK460 BK472 HB;have HO470:=n0_;have BK459:=n1_;have BK460:=n2_;have BK472:=n3_;have HB:=n4_;clear n0_ n1_ n2_ n3_ n4_
   (try clear hb)
   (try clear hb2)
   (try clear hk)
   (try clear hi)
   refine hK.out _ _ ⟨(blk_cell BK459.1 0).trans rfl,(blk_cell BK459.1 1).trans rfl,(blk_cell BK459.1 2).trans rfl,(blk_cell BK460.1 0).trans rfl,(blk_cell BK460.1 1).trans rfl,(blk_cell BK460.1 2).trans rfl⟩ (fun hHeld=>?_);clear hK K;refine norm_ (a':=?_) ?_ ?_;rotate_left
   ·show Act.put _ (some 23) _=_
    simp only [Act.put,qSa,qSb,qSc,i64_w,i32_w];rfl
   refine two_ (i:=3) (j:=8) (Ni:=some 25) (Nj:=some 7) #[true,true,true,true,false,false,false,false,false,false,false] #[true,true,true,false,false,false,false,false,true,false,false] rfl rfl rfl rfl (two_of HT_.1 (by kernel_rfl)) (by decide) (by decide) (fun K hK=>?_) (fun K hK=>?_)
   ·skip;refine goes_ Try.func19 (by kernel_rfl) rfl #[.agg #[.int .i64 a1_0,.int .i64 a1_1,.int .i64 a1_2]] (by rfl) rfl rfl qB90 ?_;with_reducible refine(laws_toCharacter.calls a1_0 a1_1 a1_2 t476 t477 t478 _ A7.1).mono ?_
    rintro e w24 ⟨rfl,hb⟩;refine⟨_,rfl,?_⟩;have n0_:=qAm (Kd.R_below qB169 hb);have n1_:=qAm (blk_below (g:=gb459) (o:=.cells #[.int .i64 a0_0,.int .i64 a0_1,.int .i64 a0_2] 36 (0,0)) qB137 hb);have n2_:=qAm (blk_below (g:=gb460) (o:=.cells #[.int .i64 a1_0,.int .i64 a1_1,.int .i64 a1_2] 36 (0,0)) qB138 hb);have n3_:=qAm (blk_below (g:=gb472) (o:=.cells #[.int .i64 t467,.slice Ao19 t468.length co19] 28 (0,0)) qB139 hb);have n4_:=qAm (below_step qB30 hb);clear HO470 BK459 BK460 BK472 HB;have HO470:=n0_;have BK459:=n1_;have BK460:=n2_;have BK472:=n3_;have HB:=n4_;clear n0_ n1_ n2_ n3_ n4_
    (try clear hb)
    (try clear hb2)
    (try clear hk)
    (try clear hi)
    refine hK.out _ _ ⟨(blk_cell BK459.1 0).trans rfl,(blk_cell BK459.1 1).trans rfl,(blk_cell BK459.1 2).trans rfl,(blk_cell BK460.1 0).trans rfl,(blk_cell BK460.1 1).trans rfl,(blk_cell BK460.1 2).trans rfl⟩ (fun hHeld=>?_);clear hK K;refine norm_ (a':=?_) ?_ ?_;rotate_left
    ·show Act.put _ (some 25) _=_
     simp only [Act.put,qSa,qSb,qSc,i64_w,i32_w];rfl
    refine two_ (i:=4) (j:=8) (Ni:=some 26) (Nj:=some 7) #[true,true,true,true,true,false,false,false,false,false,false] #[true,true,true,true,false,false,false,false,true,false,false] rfl rfl rfl rfl (two_of HT_.1 (by kernel_rfl)) (by decide) (by decide) (fun K hK=>?_) (fun K hK=>?_)
    ·skip;refine goes_ Try.func25 (by kernel_rfl) rfl #[.agg #[.int .i64 t473,.int .i64 t474,.int .i64 t475],.agg #[.int .i64 t476,.int .i64 t477,.int .i64 t478]] (by rfl) rfl rfl qB90 ?_;with_reducible refine(impl_OrthogonalSum.calls k t473 t474 t475 t476 t477 t478 t479 t480 t483 _ A8.1).mono ?_
     rintro e w25 ⟨v481,rfl,ho0,hb⟩;refine⟨_,rfl,?_⟩;have n0_:=qAm (Kd.R_elder' qB169 (Kd.R_base ho0) hb);have n1_:=qAm (Kd.R_lower (Kd.R_new' ho0 (Kd.R_lt qB169)) (below_size qB30));have n2_:=qAm (blk_below (g:=gb459) (o:=.cells #[.int .i64 a0_0,.int .i64 a0_1,.int .i64 a0_2] 36 (0,0)) qB137 hb);have n3_:=qAm (blk_below (g:=gb460) (o:=.cells #[.int .i64 a1_0,.int .i64 a1_1,.int .i64 a1_2] 36 (0,0)) qB138 hb);have n4_:=qAm (blk_below (g:=gb472) (o:=.cells #[.int .i64 t467,.slice Ao19 t468.length co19] 28 (0,0)) qB139 hb);have n5_:=qAm (below_step qB30 hb);clear HO470 BK459 BK460 BK472 HB;have HO470:=n0_;have HO482:=n1_;have BK459:=n2_;have BK460:=n3_;have BK472:=n4_;have HB:=n5_;clear n0_ n1_ n2_ n3_ n4_ n5_
     (try clear hb)
     (try clear hb2)
     (try clear hk)
     (try clear hi)
     (try clear ho0)
     refine hK.out _ _ ⟨(blk_cell BK459.1 0).trans rfl,(blk_cell BK459.1 1).trans rfl,(blk_cell BK459.1 2).trans rfl,(blk_cell BK460.1 0).trans rfl,(blk_cell BK460.1 1).trans rfl,(blk_cell BK460.1 2).trans rfl⟩ (fun hHeld=>?_);clear hK K;refine norm_ (a':=?_) ?_ ?_;rotate_left
     ·show Act.put _ (some 26) _=_
      simp only [Act.put,qSa,qSb,qSc,i64_w,i32_w];rfl
     refine pure_ (i:=5) (N:=some 21) (v:=?_) (a':=?_) #[true,true,true,true,true,true,false,false,false,false,false] rfl rfl (any_of HT_.1 (by kernel_rfl)) (fun _ _ _ h=>h) (Or.inl ⟨by rfl,?_⟩) ?_ ?_;rotate_left
     ·intro w';go_simp;with_reducible rfl
     rotate_left
     ·simp only [Act.put,qSa,qSb,qSc,i64_w,i32_w];rfl
     refine pure_ (i:=6) (N:=some 27) (v:=?_) (a':=?_) #[true,true,true,true,true,true,true,false,false,false,false] rfl rfl (any_of HT_.1 (by kernel_rfl)) (fun _ _ _ h=>h) (Or.inl ⟨by rfl,?_⟩) ?_ ?_;rotate_left
     ·intro w';go_simp;with_reducible rfl
     rotate_left
     ·simp only [Act.put,qSa,qSb,qSc,i64_w,i32_w];rfl
     refine pure_ (i:=7) (N:=some 28) (v:=?_) (a':=?_) #[true,true,true,true,true,true,true,true,false,false,false] rfl rfl (any_of HT_.1 (by kernel_rfl)) (fun _ _ _ h=>h) (Or.inl ⟨by rfl,?_⟩) ?_ ?_;rotate_left
     ·intro w';go_simp;with_reducible rfl
     rotate_left
     ·simp only [Act.put,qSa,qSb,qSc,i64_w,i32_w];rfl
     refine one_ (i:=8) (N:=some 7) #[true,true,true,true,true,true,true,true,true,false,false] rfl rfl (one_of HT_.1 (by kernel_rfl)) (by decide) (fun K hK=>?_);refine box_step ?hg (N:=7) ?hd (cs:=#[.int .i64 0,.slice none 0 0]) (t:=28) ?hr ?_;(case hd=>rfl);(case hg=>rfl);(case hr=>first|(go_simp;done)|(go_simp;rfl));intro gb484 hg w26 hbox hb;have n0_:=qAm (Kd.R_below qB169 hb);have n1_:=qAm (Kd.R_below (by (with_reducible repeat(first|apply Kd.R_alloc|apply Kd.R_drewN|apply Kd.R_drew));exact HO482.1) hb);have n2_:=qAm (blk_below (g:=gb459) (o:=.cells #[.int .i64 a0_0,.int .i64 a0_1,.int .i64 a0_2] 36 (0,0)) qB137 hb);have n3_:=qAm (blk_below (g:=gb460) (o:=.cells #[.int .i64 a1_0,.int .i64 a1_1,.int .i64 a1_2] 36 (0,0)) qB138 hb);have n4_:=qAm (blk_below (g:=gb472) (o:=.cells #[.int .i64 t467,.slice Ao19 t468.length co19] 28 (0,0)) qB139 hb);have n5_:=qAm (below_step qB30 hb);have n6_:=qAm (hbox);have n7_:=qAm ((by rw [hg];exact(below_size qB30):w.heap.size≤gb484));have n8_:=qAm ((by rw [hg];exact(below_size qB30):w.heap.size≤gb484));have n9_:=qAm ((by rw [hg];exact Nat.ne_of_lt (blk_lt (g:=gb459) (o:=.cells #[.int .i64 a0_0,.int .i64 a0_1,.int .i64 a0_2] 36 (0,0)) qB137):gb459≠gb484));have n10_:=qAm ((by rw [hg];exact Nat.ne_of_gt (blk_lt (g:=gb459) (o:=.cells #[.int .i64 a0_0,.int .i64 a0_1,.int .i64 a0_2] 36 (0,0)) qB137):gb484≠gb459));have n11_:=qAm ((by rw [hg];exact Nat.ne_of_lt (blk_lt (g:=gb460) (o:=.cells #[.int .i64 a1_0,.int .i64 a1_1,.int .i64 a1_2] 36 (0,0)) qB138):gb460≠gb484));have n12_:=qAm ((by rw [hg];exact Nat.ne_of_gt (blk_lt (g:=gb460) (o:=.cells #[.int .i64 a1_0,.int .i64 a1_1,.int .i64 a1_2] 36 (0,0)) qB138):gb484≠gb460));have n13_:=qAm ((by rw [hg];exact Nat.ne_of_lt (blk_lt (g:=gb472) (o:=.cells #[.int .i64 t467,.slice Ao19 t468.length co19] 28 (0,0)) qB139):gb472≠gb484));have n14_:=qAm ((by rw [hg];exact Nat.ne_of_gt (blk_lt (g:=gb472) (o:=.cells #[.int .i64 t467,.slice Ao19 t468.length co19] 28 (0,0)) qB139):gb484≠gb472));clear HO470 HO482 BK459 BK460 BK472 HB;have HO470:=n0_;have HO482:=n1_;have BK459:=n2_;have BK460:=n3_;have BK472:=n4_;have HB:=n5_;have BK484:=n6_;have GW484:=n7_;have GE484:=n8_;have NB459_484:=n9_;have NB484_459:=n10_;have NB460_484:=n11_;have NB484_460:=n12_;have NB472_484:=n13_;have NB484_472:=n14_;clear n0_ n1_ n2_ n3_ n4_ n5_ n6_ n7_ n8_ n9_ n10_ n11_ n12_ n13_ n14_ hb hbox hg;refine hK.out _ _ ⟨(blk_cell BK459.1 0).trans rfl,(blk_cell BK459.1 1).trans rfl,(blk_cell BK459.1 2).trans rfl,(blk_cell BK460.1 0).trans rfl,(blk_cell BK460.1 1).trans rfl,(blk_cell BK460.1 2).trans rfl⟩ (fun hHeld=>?_);clear hK K;refine norm_ (a':=?_) ?_ ?_;rotate_left
     ·show Act.put _ (some 7) _=_
      simp only [Act.put,qSa,qSb,qSc,i64_w,i32_w];rfl
     exact norm_ qB175 (hCont (v481,gb484) _ ⟨hHeld,qB93,qB94,qB137,qB138,qB139,qB140,GW484.1,GE484.1,NB459_484.1,NB484_459.1,NB460_484.1,NB484_460.1,NB472_484.1,NB484_472.1,qB25⟩)
    ·skip;refine box_step ?hg (N:=7) ?hd (cs:=#[.int .i64 0,.slice none 0 0]) (t:=28) ?hr ?_;(case hd=>rfl);(case hg=>rfl);(case hr=>first|(go_simp;done)|(go_simp;rfl));intro gb484 hg w25 hbox hb;have n0_:=qAm (Kd.R_below qB169 hb);have n1_:=qAm (blk_below (g:=gb459) (o:=.cells #[.int .i64 a0_0,.int .i64 a0_1,.int .i64 a0_2] 36 (0,0)) qB137 hb);have n2_:=qAm (blk_below (g:=gb460) (o:=.cells #[.int .i64 a1_0,.int .i64 a1_1,.int .i64 a1_2] 36 (0,0)) qB138 hb);have n3_:=qAm (blk_below (g:=gb472) (o:=.cells #[.int .i64 t467,.slice Ao19 t468.length co19] 28 (0,0)) qB139 hb);have n4_:=qAm (below_step qB30 hb);have n5_:=qAm (hbox);have n6_:=qAm ((by rw [hg];exact(below_size qB30):w.heap.size≤gb484));have n7_:=qAm ((by rw [hg];exact(below_size qB30):w.heap.size≤gb484));have n8_:=qAm ((by rw [hg];exact Nat.ne_of_lt (blk_lt (g:=gb459) (o:=.cells #[.int .i64 a0_0,.int .i64 a0_1,.int .i64 a0_2] 36 (0,0)) qB137):gb459≠gb484));have n9_:=qAm ((by rw [hg];exact Nat.ne_of_gt (blk_lt (g:=gb459) (o:=.cells #[.int .i64 a0_0,.int .i64 a0_1,.int .i64 a0_2] 36 (0,0)) qB137):gb484≠gb459));have n10_:=qAm ((by rw [hg];exact Nat.ne_of_lt (blk_lt (g:=gb460) (o:=.cells #[.int .i64 a1_0,.int .i64 a1_1,.int .i64 a1_2] 36 (0,0)) qB138):gb460≠gb484));have n11_:=qAm ((by rw [hg];exact Nat.ne_of_gt (blk_lt (g:=gb460) (o:=.cells #[.int .i64 a1_0,.int .i64 a1_1,.int .i64 a1_2] 36 (0,0)) qB138):gb484≠gb460));have n12_:=qAm ((by rw [hg];exact Nat.ne_of_lt (blk_lt (g:=gb472) (o:=.cells #[.int .i64 t467,.slice Ao19 t468.length co19] 28 (0,0)) qB139):gb472≠gb484));have n13_:=qAm ((by rw [hg];exact Nat.ne_of_gt (blk_lt (g:=gb472) (o:=.cells #[.int .i64 t467,.slice Ao19 t468.length co19] 28 (0,0)) qB139):gb484≠gb472));clear HO470 BK459 BK460 BK472 HB;have HO470:=n0_;have BK459:=n1_;have BK460:=n2_;have BK472:=n3_;have HB:=n4_;have BK484:=n5_;have GW484:=n6_;have GE484:=n7_;have NB459_484:=n8_;have NB484_459:=n9_;have NB460_484:=n10_;have NB484_460:=n11_;have NB472_484:=n12_;have NB484_472:=n13_;clear n0_ n1_ n2_ n3_ n4_ n5_ n6_ n7_ n8_ n9_ n10_ n11_ n12_ n13_ hb hbox hg;refine hK.out _ _ ⟨(blk_cell BK459.1 0).trans rfl,(blk_cell BK459.1 1).trans rfl,(blk_cell BK459.1 2).trans rfl,(blk_cell BK460.1 0).trans rfl,(blk_cell BK460.1 1).trans rfl,(blk_cell BK460.1 2).trans rfl⟩ (fun hHeld=>?_);clear hK K;refine norm_ (a':=?_) ?_ ?_;rotate_left
     ·show Act.put _ (some 7) _=_
      simp only [Act.put,qSa,qSb,qSc,i64_w,i32_w];rfl
     refine one_ (i:=4) (N:=some 26) #[true,true,true,true,true,false,false,false,true,false,false] rfl rfl (one_of HT_.1 (by kernel_rfl)) (by decide) (fun K hK=>?_);refine goes_ Try.func25 (by kernel_rfl) rfl #[.agg #[.int .i64 t473,.int .i64 t474,.int .i64 t475],.agg #[.int .i64 t476,.int .i64 t477,.int .i64 t478]] (by rfl) rfl rfl qB90 ?_;with_reducible refine(impl_OrthogonalSum.calls k t473 t474 t475 t476 t477 t478 t479 t480 t483 _ A8.1).mono ?_
     rintro e w26 ⟨v481,rfl,ho0,hb⟩;refine⟨_,rfl,?_⟩;have n0_:=qAm (Kd.R_elder' qB169 (Kd.R_base ho0) hb);have n1_:=qAm (Kd.R_lower (Kd.R_new' ho0 (Kd.R_lt qB169)) (below_size qB25));have n2_:=qAm (blk_below (g:=gb459) (o:=.cells #[.int .i64 a0_0,.int .i64 a0_1,.int .i64 a0_2] 36 (0,0)) qB137 hb);have n3_:=qAm (blk_below (g:=gb460) (o:=.cells #[.int .i64 a1_0,.int .i64 a1_1,.int .i64 a1_2] 36 (0,0)) qB138 hb);have n4_:=qAm (blk_below (g:=gb472) (o:=.cells #[.int .i64 t467,.slice Ao19 t468.length co19] 28 (0,0)) qB139 hb);have n5_:=qAm (blk_below (g:=gb484) (o:=.cells #[.int .i64 0,.slice none 0 0] 28 (0,0)) qB140 hb);have n6_:=qAm (below_step qB25 hb);clear HO470 BK459 BK460 BK472 BK484 HB;have HO470:=n0_;have HO482:=n1_;have BK459:=n2_;have BK460:=n3_;have BK472:=n4_;have BK484:=n5_;have HB:=n6_;clear n0_ n1_ n2_ n3_ n4_ n5_ n6_
     (try clear hb)
     (try clear hb2)
     (try clear hk)
     (try clear hi)
     (try clear ho0)
     refine hK.out _ _ ⟨(blk_cell BK459.1 0).trans rfl,(blk_cell BK459.1 1).trans rfl,(blk_cell BK459.1 2).trans rfl,(blk_cell BK460.1 0).trans rfl,(blk_cell BK460.1 1).trans rfl,(blk_cell BK460.1 2).trans rfl⟩ (fun hHeld=>?_);clear hK K;refine norm_ (a':=?_) ?_ ?_;rotate_left
     ·show Act.put _ (some 26) _=_
      simp only [Act.put,qSa,qSb,qSc,i64_w,i32_w];rfl
     refine pure_ (i:=5) (N:=some 21) (v:=?_) (a':=?_) #[true,true,true,true,true,true,false,false,true,false,false] rfl rfl (any_of HT_.1 (by kernel_rfl)) (fun _ _ _ h=>h) (Or.inl ⟨by rfl,?_⟩) ?_ ?_;rotate_left
     ·intro w';go_simp;with_reducible rfl
     rotate_left
     ·simp only [Act.put,qSa,qSb,qSc,i64_w,i32_w];rfl
     refine pure_ (i:=6) (N:=some 27) (v:=?_) (a':=?_) #[true,true,true,true,true,true,true,false,true,false,false] rfl rfl (any_of HT_.1 (by kernel_rfl)) (fun _ _ _ h=>h) (Or.inl ⟨by rfl,?_⟩) ?_ ?_;rotate_left
     ·intro w';go_simp;with_reducible rfl
     rotate_left
     ·simp only [Act.put,qSa,qSb,qSc,i64_w,i32_w];rfl
     refine pure_ (i:=7) (N:=some 28) (v:=?_) (a':=?_) #[true,true,true,true,true,true,true,true,true,false,false] rfl rfl (any_of HT_.1 (by kernel_rfl)) (fun _ _ _ h=>h) (Or.inl ⟨by rfl,?_⟩) ?_ ?_;rotate_left
     ·intro w';go_simp;with_reducible rfl
     rotate_left
     ·simp only [Act.put,qSa,qSb,qSc,i64_w,i32_w];rfl
     exact norm_ qB175 (hCont (v481,gb484) _ ⟨hHeld,qB93,qB94,qB137,qB138,qB139,qB140,GW484.1,GE484.1,NB459_484.1,NB484_459.1,NB460_484.1,NB484_460.1,NB472_484.1,NB484_472.1,qB25⟩)
   ·skip;refine box_step ?hg (N:=7) ?hd (cs:=#[.int .i64 0,.slice none 0 0]) (t:=28) ?hr ?_;(case hd=>rfl);(case hg=>rfl);(case hr=>first|(go_simp;done)|(go_simp;rfl));intro gb484 hg w24 hbox hb;have n0_:=qAm (Kd.R_below qB169 hb);have n1_:=qAm (blk_below (g:=gb459) (o:=.cells #[.int .i64 a0_0,.int .i64 a0_1,.int .i64 a0_2] 36 (0,0)) qB137 hb);have n2_:=qAm (blk_below (g:=gb460) (o:=.cells #[.int .i64 a1_0,.int .i64 a1_1,.int .i64 a1_2] 36 (0,0)) qB138 hb);have n3_:=qAm (blk_below (g:=gb472) (o:=.cells #[.int .i64 t467,.slice Ao19 t468.length co19] 28 (0,0)) qB139 hb);have n4_:=qAm (below_step qB30 hb);have n5_:=qAm (hbox);have n6_:=qAm ((by rw [hg];exact(below_size qB30):w.heap.size≤gb484));have n7_:=qAm ((by rw [hg];exact(below_size qB30):w.heap.size≤gb484));have n8_:=qAm ((by rw [hg];exact Nat.ne_of_lt (blk_lt (g:=gb459) (o:=.cells #[.int .i64 a0_0,.int .i64 a0_1,.int .i64 a0_2] 36 (0,0)) qB137):gb459≠gb484));have n9_:=qAm ((by rw [hg];exact Nat.ne_of_gt (blk_lt (g:=gb459) (o:=.cells #[.int .i64 a0_0,.int .i64 a0_1,.int .i64 a0_2] 36 (0,0)) qB137):gb484≠gb459));have n10_:=qAm ((by rw [hg];exact Nat.ne_of_lt (blk_lt (g:=gb460) (o:=.cells #[.int .i64 a1_0,.int .i64 a1_1,.int .i64 a1_2] 36 (0,0)) qB138):gb460≠gb484));have n11_:=qAm ((by rw [hg];exact Nat.ne_of_gt (blk_lt (g:=gb460) (o:=.cells #[.int .i64 a1_0,.int .i64 a1_1,.int .i64 a1_2] 36 (0,0)) qB138):gb484≠gb460));have n12_:=qAm ((by rw [hg];exact Nat.ne_of_lt (blk_lt (g:=gb472) (o:=.cells #[.int .i64 t467,.slice Ao19 t468.length co19] 28 (0,0)) qB139):gb472≠gb484));have n13_:=qAm ((by rw [hg];exact Nat.ne_of_gt (blk_lt (g:=gb472) (o:=.cells #[.int .i64 t467,.slice Ao19 t468.length co19] 28 (0,0)) qB139):gb484≠gb472));clear HO470 BK459 BK460 BK472 HB;have HO470:=n0_;have BK459:=n1_;have BK460:=n2_;have BK472:=n3_;have HB:=n4_;have BK484:=n5_;have GW484:=n6_;have GE484:=n7_;have NB459_484:=n8_;have NB484_459:=n9_;have NB460_484:=n10_;have NB484_460:=n11_;have NB472_484:=n12_;have NB484_472:=n13_;clear n0_ n1_ n2_ n3_ n4_ n5_ n6_ n7_ n8_ n9_ n10_ n11_ n12_ n13_ hb hbox hg;refine hK.out _ _ ⟨(blk_cell BK459.1 0).trans rfl,(blk_cell BK459.1 1).trans rfl,(blk_cell BK459.1 2).trans rfl,(blk_cell BK460.1 0).trans rfl,(blk_cell BK460.1 1).trans rfl,(blk_cell BK460.1 2).trans rfl⟩ (fun hHeld=>?_);clear hK K;refine norm_ (a':=?_) ?_ ?_;rotate_left
    ·show Act.put _ (some 7) _=_
     simp only [Act.put,qSa,qSb,qSc,i64_w,i32_w];rfl
    refine one_ (i:=3) (N:=some 25) #[true,true,true,true,false,false,false,false,true,false,false] rfl rfl (one_of HT_.1 (by kernel_rfl)) (by decide) (fun K hK=>?_);refine goes_ Try.func19 (by kernel_rfl) rfl #[.agg #[.int .i64 a1_0,.int .i64 a1_1,.int .i64 a1_2]] (by rfl) rfl rfl qB90 ?_;with_reducible refine(laws_toCharacter.calls a1_0 a1_1 a1_2 t476 t477 t478 _ A7.1).mono ?_
    rintro e w25 ⟨rfl,hb⟩;refine⟨_,rfl,?_⟩;have n0_:=qAm (Kd.R_below qB169 hb);have n1_:=qAm (blk_below (g:=gb459) (o:=.cells #[.int .i64 a0_0,.int .i64 a0_1,.int .i64 a0_2] 36 (0,0)) qB137 hb);have n2_:=qAm (blk_below (g:=gb460) (o:=.cells #[.int .i64 a1_0,.int .i64 a1_1,.int .i64 a1_2] 36 (0,0)) qB138 hb);have n3_:=qAm (blk_below (g:=gb472) (o:=.cells #[.int .i64 t467,.slice Ao19 t468.length co19] 28 (0,0)) qB139 hb);have n4_:=qAm (blk_below (g:=gb484) (o:=.cells #[.int .i64 0,.slice none 0 0] 28 (0,0)) qB140 hb);have n5_:=qAm (below_step qB25 hb);clear HO470 BK459 BK460 BK472 BK484 HB;have HO470:=n0_;have BK459:=n1_;have BK460:=n2_;have BK472:=n3_;have BK484:=n4_;have HB:=n5_;clear n0_ n1_ n2_ n3_ n4_ n5_
    (try clear hb)
    (try clear hb2)
    (try clear hk)
    (try clear hi)
    refine hK.out _ _ ⟨(blk_cell BK459.1 0).trans rfl,(blk_cell BK459.1 1).trans rfl,(blk_cell BK459.1 2).trans rfl,(blk_cell BK460.1 0).trans rfl,(blk_cell BK460.1 1).trans rfl,(blk_cell BK460.1 2).trans rfl⟩ (fun hHeld=>?_);clear hK K;refine norm_ (a':=?_) ?_ ?_;rotate_left
    ·show Act.put _ (some 25) _=_
     simp only [Act.put,qSa,qSb,qSc,i64_w,i32_w];rfl
    refine one_ (i:=4) (N:=some 26) #[true,true,true,true,true,false,false,false,true,false,false] rfl rfl (one_of HT_.1 (by kernel_rfl)) (by decide) (fun K hK=>?_);refine goes_ Try.func25 (by kernel_rfl) rfl #[.agg #[.int .i64 t473,.int .i64 t474,.int .i64 t475],.agg #[.int .i64 t476,.int .i64 t477,.int .i64 t478]] (by rfl) rfl rfl qB90 ?_;with_reducible refine(impl_OrthogonalSum.calls k t473 t474 t475 t476 t477 t478 t479 t480 t483 _ A8.1).mono ?_
    rintro e w26 ⟨v481,rfl,ho0,hb⟩;refine⟨_,rfl,?_⟩;have n0_:=qAm (Kd.R_elder' qB169 (Kd.R_base ho0) hb);have n1_:=qAm (Kd.R_lower (Kd.R_new' ho0 (Kd.R_lt qB169)) (below_size qB25));have n2_:=qAm (blk_below (g:=gb459) (o:=.cells #[.int .i64 a0_0,.int .i64 a0_1,.int .i64 a0_2] 36 (0,0)) qB137 hb);have n3_:=qAm (blk_below (g:=gb460) (o:=.cells #[.int .i64 a1_0,.int .i64 a1_1,.int .i64 a1_2] 36 (0,0)) qB138 hb);have n4_:=qAm (blk_below (g:=gb472) (o:=.cells #[.int .i64 t467,.slice Ao19 t468.length co19] 28 (0,0)) qB139 hb);have n5_:=qAm (blk_below (g:=gb484) (o:=.cells #[.int .i64 0,.slice none 0 0] 28 (0,0)) qB140 hb);have n6_:=qAm (below_step qB25 hb);clear HO470 BK459 BK460 BK472 BK484 HB;have HO470:=n0_;have HO482:=n1_;have BK459:=n2_;have BK460:=n3_;have BK472:=n4_;have BK484:=n5_;have HB:=n6_;clear n0_ n1_ n2_ n3_ n4_ n5_ n6_
    (try clear hb)
    (try clear hb2)
    (try clear hk)
    (try clear hi)
    (try clear ho0)
    refine hK.out _ _ ⟨(blk_cell BK459.1 0).trans rfl,(blk_cell BK459.1 1).trans rfl,(blk_cell BK459.1 2).trans rfl,(blk_cell BK460.1 0).trans rfl,(blk_cell BK460.1 1).trans rfl,(blk_cell BK460.1 2).trans rfl⟩ (fun hHeld=>?_);clear hK K;refine norm_ (a':=?_) ?_ ?_;rotate_left
    ·show Act.put _ (some 26) _=_
     simp only [Act.put,qSa,qSb,qSc,i64_w,i32_w];rfl
    refine pure_ (i:=5) (N:=some 21) (v:=?_) (a':=?_) #[true,true,true,true,true,true,false,false,true,false,false] rfl rfl (any_of HT_.1 (by kernel_rfl)) (fun _ _ _ h=>h) (Or.inl ⟨by rfl,?_⟩) ?_ ?_;rotate_left
    ·intro w';go_simp;with_reducible rfl
    rotate_left
    ·simp only [Act.put,qSa,qSb,qSc,i64_w,i32_w];rfl
    refine pure_ (i:=6) (N:=some 27) (v:=?_) (a':=?_) #[true,true,true,true,true,true,true,false,true,false,false] rfl rfl (any_of HT_.1 (by kernel_rfl)) (fun _ _ _ h=>h) (Or.inl ⟨by rfl,?_⟩) ?_ ?_;rotate_left
    ·intro w';go_simp;with_reducible rfl
    rotate_left
    ·simp only [Act.put,qSa,qSb,qSc,i64_w,i32_w];rfl
    refine pure_ (i:=7) (N:=some 28) (v:=?_) (a':=?_) #[true,true,true,true,true,true,true,true,true,false,false] rfl rfl (any_of HT_.1 (by kernel_rfl)) (fun _ _ _ h=>h) (Or.inl ⟨by rfl,?_⟩) ?_ ?_;rotate_left
    ·intro w';go_simp;with_reducible rfl
    rotate_left
    ·simp only [Act.put,qSa,qSb,qSc,i64_w,i32_w];rfl
    exact norm_ qB175 (hCont (v481,gb484) _ ⟨hHeld,qB93,qB94,qB137,qB138,qB139,qB140,GW484.1,GE484.1,NB459_484.1,NB484_459.1,NB460_484.1,NB484_460.1,NB472_484.1,NB484_472.1,qB25⟩)
  ·skip;refine box_step ?hg (N:=7) ?hd (cs:=#[.int .i64 0,.slice none 0 0]) (t:=28) ?hr ?_;(case hd=>rfl);(case hg=>rfl);(case hr=>first|(go_simp;done)|(go_simp;rfl));intro gb484 hg w23 hbox hb;have n0_:=qAm (Kd.R_below qB169 hb);have n1_:=qAm (blk_below (g:=gb459) (o:=.cells #[.int .i64 a0_0,.int .i64 a0_1,.int .i64 a0_2] 36 (0,0)) qB137 hb);have n2_:=qAm (blk_below (g:=gb460) (o:=.cells #[.int .i64 a1_0,.int .i64 a1_1,.int .i64 a1_2] 36 (0,0)) qB138 hb);have n3_:=qAm (blk_below (g:=gb472) (o:=.cells #[.int .i64 t467,.slice Ao19 t468.length co19] 28 (0,0)) qB139 hb);have n4_:=qAm (below_step qB30 hb);have n5_:=qAm (hbox);have n6_:=qAm ((by rw [hg];exact(below_size qB30):w.heap.size≤gb484));have n7_:=qAm ((by rw [hg];exact(below_size qB30):w.heap.size≤gb484));have n8_:=qAm ((by rw [hg];exact Nat.ne_of_lt (blk_lt (g:=gb459) (o:=.cells #[.int .i64 a0_0,.int .i64 a0_1,.int .i64 a0_2] 36 (0,0)) qB137):gb459≠gb484));have n9_:=qAm ((by rw [hg];exact Nat.ne_of_gt (blk_lt (g:=gb459) (o:=.cells #[.int .i64 a0_0,.int .i64 a0_1,.int .i64 a0_2] 36 (0,0)) qB137):gb484≠gb459));have n10_:=qAm ((by rw [hg];exact Nat.ne_of_lt (blk_lt (g:=gb460) (o:=.cells #[.int .i64 a1_0,.int .i64 a1_1,.int .i64 a1_2] 36 (0,0)) qB138):gb460≠gb484));have n11_:=qAm ((by rw [hg];exact Nat.ne_of_gt (blk_lt (g:=gb460) (o:=.cells #[.int .i64 a1_0,.int .i64 a1_1,.int .i64 a1_2] 36 (0,0)) qB138):gb484≠gb460));have n12_:=qAm ((by rw [hg];exact Nat.ne_of_lt (blk_lt (g:=gb472) (o:=.cells #[.int .i64 t467,.slice Ao19 t468.length co19] 28 (0,0)) qB139):gb472≠gb484));have n13_:=qAm ((by rw [hg];exact Nat.ne_of_gt (blk_lt (g:=gb472) (o:=.cells #[.int .i64 t467,.slice Ao19 t468.length co19] 28 (0,0)) qB139):gb484≠gb472));clear HO470 BK459 BK460 BK472 HB;have HO470:=n0_;have BK459:=n1_;have BK460:=n2_;have BK472:=n3_;have HB:=n4_;have BK484:=n5_;have GW484:=n6_;have GE484:=n7_;have NB459_484:=n8_;have NB484_459:=n9_;have NB460_484:=n10_;have NB484_460:=n11_;have NB472_484:=n12_;have NB484_472:=n13_;clear n0_ n1_ n2_ n3_ n4_ n5_ n6_ n7_ n8_ n9_ n10_ n11_ n12_ n13_ hb hbox hg;refine hK.out _ _ ⟨(blk_cell BK459.1 0).trans rfl,(blk_cell BK459.1 1).trans rfl,(blk_cell BK459.1 2).trans rfl,(blk_cell BK460.1 0).trans rfl,(blk_cell BK460.1 1).trans rfl,(blk_cell BK460.1 2).trans rfl⟩ (fun hHeld=>?_);clear hK K;refine norm_ (a':=?_) ?_ ?_;rotate_left
   ·show Act.put _ (some 7) _=_
    simp only [Act.put,qSa,qSb,qSc,i64_w,i32_w];rfl
   refine one_ (i:=1) (N:=some 23) #[true,true,true,false,false,false,false,false,true,false,false] rfl rfl (one_of HT_.1 (by kernel_rfl)) (by decide) (fun K hK=>?_);refine goes_ Try.func19 (by kernel_rfl) rfl #[.agg #[.int .i64 a0_0,.int .i64 a0_1,.int .i64 a0_2]] (by rfl) rfl rfl qB90 ?_;with_reducible refine(laws_toCharacter.calls a0_0 a0_1 a0_2 t473 t474 t475 _ A6.1).mono ?_
   rintro e w24 ⟨rfl,hb⟩;refine⟨_,rfl,?_⟩;have n0_:=qAm (Kd.R_below qB169 hb);have n1_:=qAm (blk_below (g:=gb459) (o:=.cells #[.int .i64 a0_0,.int .i64 a0_1,.int .i64 a0_2] 36 (0,0)) qB137 hb);have n2_:=qAm (blk_below (g:=gb460) (o:=.cells #[.int .i64 a1_0,.int .i64 a1_1,.int .i64 a1_2] 36 (0,0)) qB138 hb);have n3_:=qAm (blk_below (g:=gb472) (o:=.cells #[.int .i64 t467,.slice Ao19 t468.length co19] 28 (0,0)) qB139 hb);have n4_:=qAm (blk_below (g:=gb484) (o:=.cells #[.int .i64 0,.slice none 0 0] 28 (0,0)) qB140 hb);have n5_:=qAm (below_step qB25 hb);clear HO470 BK459 BK460 BK472 BK484 HB;have HO470:=n0_;have BK459:=n1_;have BK460:=n2_;have BK472:=n3_;have BK484:=n4_;have HB:=n5_;clear n0_ n1_ n2_ n3_ n4_ n5_
   (try clear hb)
   (try clear hb2)
   (try clear hk)
   (try clear hi)
   refine hK.out _ _ ⟨(blk_cell BK459.1 0).trans rfl,(blk_cell BK459.1 1).trans rfl,(blk_cell BK459.1 2).trans rfl,(blk_cell BK460.1 0).trans rfl,(blk_cell BK460.1 1).trans rfl,(blk_cell BK460.1 2).trans rfl⟩ (fun hHeld=>?_);clear hK K;refine norm_ (a':=?_) ?_ ?_;rotate_left
   ·show Act.put _ (some 23) _=_
    simp only [Act.put,qSa,qSb,qSc,i64_w,i32_w];rfl
   refine one_ (i:=3) (N:=some 25) #[true,true,true,true,false,false,false,false,true,false,false] rfl rfl (one_of HT_.1 (by kernel_rfl)) (by decide) (fun K hK=>?_);refine goes_ Try.func19 (by kernel_rfl) rfl #[.agg #[.int .i64 a1_0,.int .i64 a1_1,.int .i64 a1_2]] (by rfl) rfl rfl qB90 ?_;with_reducible refine(laws_toCharacter.calls a1_0 a1_1 a1_2 t476 t477 t478 _ A7.1).mono ?_
   rintro e w25 ⟨rfl,hb⟩;refine⟨_,rfl,?_⟩;have n0_:=qAm (Kd.R_below qB169 hb);have n1_:=qAm (blk_below (g:=gb459) (o:=.cells #[.int .i64 a0_0,.int .i64 a0_1,.int .i64 a0_2] 36 (0,0)) qB137 hb);have n2_:=qAm (blk_below (g:=gb460) (o:=.cells #[.int .i64 a1_0,.int .i64 a1_1,.int .i64 a1_2] 36 (0,0)) qB138 hb);have n3_:=qAm (blk_below (g:=gb472) (o:=.cells #[.int .i64 t467,.slice Ao19 t468.length co19] 28 (0,0)) qB139 hb);have n4_:=qAm (blk_below (g:=gb484) (o:=.cells #[.int .i64 0,.slice none 0 0] 28 (0,0)) qB140 hb);have n5_:=qAm (below_step qB25 hb);clear HO470 BK459 BK460 BK472 BK484 HB;have HO470:=n0_;have BK459:=n1_;have BK460:=n2_;have BK472:=n3_;have BK484:=n4_;have HB:=n5_;clear n0_ n1_ n2_ n3_ n4_ n5_
   (try clear hb)
   (try clear hb2)
   (try clear hk)
   (try clear hi)
   refine hK.out _ _ ⟨(blk_cell BK459.1 0).trans rfl,(blk_cell BK459.1 1).trans rfl,(blk_cell BK459.1 2).trans rfl,(blk_cell BK460.1 0).trans rfl,(blk_cell BK460.1 1).trans rfl,(blk_cell BK460.1 2).trans rfl⟩ (fun hHeld=>?_);clear hK K;refine norm_ (a':=?_) ?_ ?_;rotate_left
   ·show Act.put _ (some 25) _=_
    simp only [Act.put,qSa,qSb,qSc,i64_w,i32_w];rfl
   refine one_ (i:=4) (N:=some 26) #[true,true,true,true,true,false,false,false,true,false,false] rfl rfl (one_of HT_.1 (by kernel_rfl)) (by decide) (fun K hK=>?_);refine goes_ Try.func25 (by kernel_rfl) rfl #[.agg #[.int .i64 t473,.int .i64 t474,.int .i64 t475],.agg #[.int .i64 t476,.int .i64 t477,.int .i64 t478]] (by rfl) rfl rfl qB90 ?_;with_reducible refine(impl_OrthogonalSum.calls k t473 t474 t475 t476 t477 t478 t479 t480 t483 _ A8.1).mono ?_
   rintro e w26 ⟨v481,rfl,ho0,hb⟩;refine⟨_,rfl,?_⟩;have n0_:=qAm (Kd.R_elder' qB169 (Kd.R_base ho0) hb);have n1_:=qAm (Kd.R_lower (Kd.R_new' ho0 (Kd.R_lt qB169)) (below_size qB25));have n2_:=qAm (blk_below (g:=gb459) (o:=.cells #[.int .i64 a0_0,.int .i64 a0_1,.int .i64 a0_2] 36 (0,0)) qB137 hb);have n3_:=qAm (blk_below (g:=gb460) (o:=.cells #[.int .i64 a1_0,.int .i64 a1_1,.int .i64 a1_2] 36 (0,0)) qB138 hb);have n4_:=qAm (blk_below (g:=gb472) (o:=.cells #[.int .i64 t467,.slice Ao19 t468.length co19] 28 (0,0)) qB139 hb);have n5_:=qAm (blk_below (g:=gb484) (o:=.cells #[.int .i64 0,.slice none 0 0] 28 (0,0)) qB140 hb);have n6_:=qAm (below_step qB25 hb);clear HO470 BK459 BK460 BK472 BK484 HB;have HO470:=n0_;have HO482:=n1_;have BK459:=n2_;have BK460:=n3_;have BK472:=n4_;have BK484:=n5_;have HB:=n6_;clear n0_ n1_ n2_ n3_ n4_ n5_ n6_
   (try clear hb)
   (try clear hb2)
   (try clear hk)
   (try clear hi)
   (try clear ho0)
   refine hK.out _ _ ⟨(blk_cell BK459.1 0).trans rfl,(blk_cell BK459.1 1).trans rfl,(blk_cell BK459.1 2).trans rfl,(blk_cell BK460.1 0).trans rfl,(blk_cell BK460.1 1).trans rfl,(blk_cell BK460.1 2).trans rfl⟩ (fun hHeld=>?_);clear hK K;refine norm_ (a':=?_) ?_ ?_;rotate_left
   ·show Act.put _ (some 26) _=_
    simp only [Act.put,qSa,qSb,qSc,i64_w,i32_w];rfl
   refine pure_ (i:=5) (N:=some 21) (v:=?_) (a':=?_) #[true,true,true,true,true,true,false,false,true,false,false] rfl rfl (any_of HT_.1 (by kernel_rfl)) (fun _ _ _ h=>h) (Or.inl ⟨by rfl,?_⟩) ?_ ?_;rotate_left
   ·intro w';go_simp;with_reducible rfl
   rotate_left
   ·simp only [Act.put,qSa,qSb,qSc,i64_w,i32_w];rfl
   refine pure_ (i:=6) (N:=some 27) (v:=?_) (a':=?_) #[true,true,true,true,true,true,true,false,true,false,false] rfl rfl (any_of HT_.1 (by kernel_rfl)) (fun _ _ _ h=>h) (Or.inl ⟨by rfl,?_⟩) ?_ ?_;rotate_left
   ·intro w';go_simp;with_reducible rfl
   rotate_left
   ·simp only [Act.put,qSa,qSb,qSc,i64_w,i32_w];rfl
   refine pure_ (i:=7) (N:=some 28) (v:=?_) (a':=?_) #[true,true,true,true,true,true,true,true,true,false,false] rfl rfl (any_of HT_.1 (by kernel_rfl)) (fun _ _ _ h=>h) (Or.inl ⟨by rfl,?_⟩) ?_ ?_;rotate_left
   ·intro w';go_simp;with_reducible rfl
   rotate_left
   ·simp only [Act.put,qSa,qSb,qSc,i64_w,i32_w];rfl
   exact norm_ qB175 (hCont (v481,gb484) _ ⟨hHeld,qB93,qB94,qB137,qB138,qB139,qB140,GW484.1,GE484.1,NB459_484.1,NB484_459.1,NB460_484.1,NB484_460.1,NB472_484.1,NB484_472.1,qB25⟩)
 rintro⟨v481,gb484⟩ w27 ⟨hS_,h0_,h1_,h2_,h3_,h4_,h5_,h6_,h7_,h8_,h9_,h10_,h11_,h12_,h13_,h14_⟩;have n0_:Aside0 (Kd.R (Kd.int .i64) 2 w27 w.heap.size (fun k_=>some k_≠(v481:Value).ownBlock) (.slice Ao19 t468.length co19) t468):=⟨h0_⟩
 have n1_:Aside0 (Kd.R (Kd.int .i64) 2 w27 w.heap.size (fun k_=>some k_≠(.slice Ao19 t468.length co19:Value).ownBlock) v481 t480):=⟨h1_⟩
 have n2_:Aside0 (w27.heap[gb459]? =some (.cells #[.int .i64 a0_0,.int .i64 a0_1,.int .i64 a0_2] 36 (0,0))):=⟨h2_⟩
 have n3_:Aside0 (w27.heap[gb460]? =some (.cells #[.int .i64 a1_0,.int .i64 a1_1,.int .i64 a1_2] 36 (0,0))):=⟨h3_⟩
 have n4_:Aside0 (w27.heap[gb472]? =some (.cells #[.int .i64 t467,.slice Ao19 t468.length co19] 28 (0,0))):=⟨h4_⟩
 have n5_:Aside0 (w27.heap[gb484]? =some (.cells #[.int .i64 0,.slice none 0 0] 28 (0,0))):=⟨h5_⟩
 have n6_:Aside0 (w.heap.size≤gb484):=⟨h6_⟩
 have n7_:Aside0 (w.heap.size≤gb484):=⟨h7_⟩
 have n8_:Aside0 (gb459≠gb484):=⟨h8_⟩
 have n9_:Aside0 (gb484≠gb459):=⟨h9_⟩
 have n10_:Aside0 (gb460≠gb484):=⟨h10_⟩
 have n11_:Aside0 (gb484≠gb460):=⟨h11_⟩
 have n12_:Aside0 (gb472≠gb484):=⟨h12_⟩
 have n13_:Aside0 (gb484≠gb472):=⟨h13_⟩
 have n14_:Aside0 (Below w.heap.size w w27):=⟨h14_⟩
 clear HO470 BK459 BK460 BK472 HB h0_ h1_ h2_ h3_ h4_ h5_ h6_ h7_ h8_ h9_ h10_ h11_ h12_ h13_ h14_;have HO470:=n0_;have HO482:=n1_;have BK459:=n2_;have BK460:=n3_;have BK472:=n4_;have BK484:=n5_;have GW484:=n6_;have GE484:=n7_;have NB459_484:=n8_;have NB484_459:=n9_;have NB460_484:=n10_;have NB484_460:=n11_;have NB472_484:=n12_;have NB484_472:=n13_;have HB:=n14_;clear n0_ n1_ n2_ n3_ n4_ n5_ n6_ n7_ n8_ n9_ n10_ n11_ n12_ n13_ n14_;have hHeld:w27.cell? ⟨gb459,0,none⟩=some (.int .i64 a0_0)∧w27.cell? ⟨gb459,1,none⟩=some (.int .i64 a0_1)∧w27.cell? ⟨gb459,2,none⟩=some (.int .i64 a0_2)∧w27.cell? ⟨gb460,0,none⟩=some (.int .i64 a1_0)∧w27.cell? ⟨gb460,1,none⟩=some (.int .i64 a1_1)∧w27.cell? ⟨gb460,2,none⟩=some (.int .i64 a1_2):=hS_;obtain⟨Ao29,co29,eo29⟩:=Kd.R_slice HO482.1
 (first|subst eo29|(injection eo29 with f1_ f2_ f3_;have f4_:=f1_.symm;have f5_:=f3_.symm;clear f1_ f2_ f3_;subst f4_;subst f5_))
 refine norm_ (a':=?_) ?_ ?_;rotate_left
 ·simp only [putAll,Act.put,qSa,qSb,qSc];rfl
 refine one_ (i:=9) (N:=none) #[true,true,true,true,true,true,true,true,true,true,false] rfl rfl (one_of HT_.1 (by kernel_rfl)) (by decide) (fun K hK=>?_);have hs28:w27.cell? ⟨gb484,0,none⟩=some (.int .i64 0):=(blk_cell BK484.1 0).trans rfl;have hfs28:=blk_frozen BK484.1 0;have hns28_0:=NB459_484.1;have hns28_1:=NB460_484.1;have hns28_2:=NB472_484.1;have hms28_0:=NB484_459.1;have hms28_1:=NB484_460.1;have hms28_2:=NB484_472.1;have hs30:w27.cell? ⟨gb484,1,none⟩=some (.slice none 0 0):=(blk_cell BK484.1 1).trans rfl;have hfs30:=blk_frozen BK484.1 1;have hns30_0:=NB459_484.1;have hns30_1:=NB460_484.1;have hns30_2:=NB472_484.1;have hms30_0:=NB484_459.1;have hms30_1:=NB484_460.1;have hms30_2:=NB484_472.1;refine skip_ (w1:=?_) (by rfl) rfl ?_ ?_;rotate_left
 ·go_simp;rfl
 refine hK.out _ _ ⟨((cell_far (p:=⟨gb484,_,none⟩) NB459_484.1 _).trans (((cell_far (p:=⟨gb484,_,none⟩) NB459_484.1 _).trans (hHeld.1)))),((cell_far (p:=⟨gb484,_,none⟩) NB459_484.1 _).trans (((cell_far (p:=⟨gb484,_,none⟩) NB459_484.1 _).trans (hHeld.2.1)))),((cell_far (p:=⟨gb484,_,none⟩) NB459_484.1 _).trans (((cell_far (p:=⟨gb484,_,none⟩) NB459_484.1 _).trans (hHeld.2.2.1)))),((cell_far (p:=⟨gb484,_,none⟩) NB460_484.1 _).trans (((cell_far (p:=⟨gb484,_,none⟩) NB460_484.1 _).trans (hHeld.2.2.2.1)))),((cell_far (p:=⟨gb484,_,none⟩) NB460_484.1 _).trans (((cell_far (p:=⟨gb484,_,none⟩) NB460_484.1 _).trans (hHeld.2.2.2.2.1)))),((cell_far (p:=⟨gb484,_,none⟩) NB460_484.1 _).trans (((cell_far (p:=⟨gb484,_,none⟩) NB460_484.1 _).trans (hHeld.2.2.2.2.2))))⟩ (fun hHeld=>?_);clear hK K;refine pure_ (i:=10) (N:=some 8) (v:=?_) (a':=?_) #[true,true,true,true,true,true,true,true,true,true,true] rfl rfl (any_of HT_.1 (by kernel_rfl)) (fun _ _ _ h=>h) (Or.inl ⟨by rfl,?_⟩) ?_ ?_;rotate_left
 ·intro w';go_simp;with_reducible rfl
 rotate_left
 ·simp only [Act.put,qSa,qSb,qSc,i64_w,i32_w];rfl
 refine done_ (done_of HT_.1 (by kernel_rfl)) ?_;go_upto_region 3 with (fail)
 go_cut [37] (fun v37 wc=>∃(kq:Nat) (x37_8:Bool),v37=.bool x37_8∧Aside0 (laws_FnExactOrthogonalSum.j0 kq t471 x37_8 a0_0 a0_1 a0_2 a1_0 a1_1 a1_2 t467 t468 t479 t480=some true)∧Aside0 (kq≤k)∧Aside0 (Kd.R (Kd.int .i64) 2 wc w.heap.size (fun k_=>some k_≠((.slice Ao29 t480.length co29):Value).ownBlock) (.slice Ao19 t468.length co19) t468)∧Aside0 (Kd.R (Kd.int .i64) 2 wc w.heap.size (fun k_=>some k_≠((.slice Ao19 t468.length co19):Value).ownBlock) (.slice Ao29 t480.length co29) t480)∧Aside0 (wc.heap[gb459]? =some (.cells #[.int .i64 a0_0,.int .i64 a0_1,.int .i64 a0_2] 36 (0,0)))∧Aside0 (wc.heap[gb460]? =some (.cells #[.int .i64 a1_0,.int .i64 a1_1,.int .i64 a1_2] 36 (0,0)))∧Aside0 (wc.heap[gb472]? =some (.cells #[.int .i64 t467,(.slice Ao19 t468.length co19)] 28 (0,0)))∧Aside0 (wc.heap[gb484]? =some (.cells #[.int .i64 t479,(.slice Ao29 t480.length co29)] 28 (0,0)))∧Aside0 (Below w.heap.size w wc))
 case first=>
  have H:=HC9.1;clear HC9;replace H:=qOb H;obtain⟨t485,A310,H⟩:=H;replace H:(if t485=true then (laws_FnExactOrthogonalSum.j0 k t471 (t483 !=t471) a0_0 a0_1 a0_2 a1_0 a1_1 a1_2 t467 t468 t479 t480) else (laws_FnExactOrthogonalSum.j0 k t471 true a0_0 a0_1 a0_2 a1_0 a1_1 a1_2 t467 t468 t479 t480))=some true:=H;have A31:=qAm A310;clear A310
  by_cases c32:t485=true
  ·subst c32;have H1:(laws_FnExactOrthogonalSum.j0 k t471 (t483 !=t471) a0_0 a0_1 a0_2 a1_0 a1_1 a1_2 t467 t468 t479 t480)=some true:=by rw [if_pos rfl] at H;exact H
   clear H;have H:=H1;clear H1;have H':=qAm H;clear H;have hnb33:=NB484_459.1;have hnc33:=NB459_484.1;have hnb34:=NB484_460.1;have hnc34:=NB460_484.1;have hnb35:=NB484_472.1;have hnc35:=NB472_484.1;have hcz36_0:w27.cell? ⟨gb484,0,none⟩=some (.int .i64 0):=(blk_cell BK484.1 0).trans rfl;have hcz36_1:w27.cell? ⟨gb484,1,none⟩=some (.slice none 0 0):=(blk_cell BK484.1 1).trans rfl;have hfz36_0:=blk_frozen BK484.1 0;have hfz36_1:=blk_frozen BK484.1 1;have hnb37:=NB472_459.1;have hnc37:=NB459_472.1;have hnb38:=NB472_460.1;have hnc38:=NB460_472.1;have hcz39_0:w27.cell? ⟨gb472,0,none⟩=some (.int .i64 t467):=(blk_cell BK472.1 0).trans rfl;have hcz39_1:w27.cell? ⟨gb472,1,none⟩=some (.slice Ao19 t468.length co19):=(blk_cell BK472.1 1).trans rfl;have hfz39_0:=blk_frozen BK472.1 0;have hfz39_1:=blk_frozen BK472.1 1;go_wp2_with (first|((with_reducible refine gate_callee (f:=14) rfl ?_);refine goesL_ (some 31) rfl rfl Try.func14 (by kernel_rfl) rfl #[.agg #[.int .i64 t479,.slice Ao29 t480.length co29],.agg #[.int .i64 t467,.slice Ao19 t468.length co19]] rfl qB90 ?_;(with_reducible refine(laws_eqCyclo.calls k t479 _ _ t480 t467 _ _ t468 true _ ?side1 ?side2 ?side3 ?side4 A31.1).mono ?_);(case side1=>refine(Kd.R_reads' (e:=2) (base:=w.heap.size) (ok:=fun k_=>some k_≠(.slice Ao19 t468.length co19:Value).ownBlock) (n:=t480.length) (c:=co29) ?_).2.2;exact qB13);(case side2=>exact(Kd.R_reads' HO482.1).2.1);(case side3=>refine(Kd.R_reads' (e:=2) (base:=w.heap.size) (ok:=fun k_=>some k_≠(.slice Ao29 t480.length co29:Value).ownBlock) (n:=t468.length) (c:=co19) ?_).2.2;exact qB14);(case side4=>exact(Kd.R_reads' HO470.1).2.1);rintro e w40 ⟨rfl,hb⟩;refine⟨_,rfl,?_⟩;have n0_:=qAm (Kd.R_below qB14 hb);have n1_:=qAm (Kd.R_below qB13 hb);have n2_:=qAm (blk_below (g:=gb459) (o:=.cells #[.int .i64 a0_0,.int .i64 a0_1,.int .i64 a0_2] 36 (0,0)) (by (with_reducible repeat(first|refine blk_drewN ?_ _|refine blk_drew ?_|refine blk_alloc ?_ _));refine blk_far ?_ NB459_484.1 _;(with_reducible repeat(first|refine blk_drewN ?_ _|refine blk_drew ?_|refine blk_alloc ?_ _));refine blk_far ?_ NB459_484.1 _;(with_reducible repeat(first|refine blk_drewN ?_ _|refine blk_drew ?_|refine blk_alloc ?_ _));exact BK459.1) hb);have n3_:=qAm (blk_below (g:=gb460) (o:=.cells #[.int .i64 a1_0,.int .i64 a1_1,.int .i64 a1_2] 36 (0,0)) (by (with_reducible repeat(first|refine blk_drewN ?_ _|refine blk_drew ?_|refine blk_alloc ?_ _));refine blk_far ?_ NB460_484.1 _;(with_reducible repeat(first|refine blk_drewN ?_ _|refine blk_drew ?_|refine blk_alloc ?_ _));refine blk_far ?_ NB460_484.1 _;(with_reducible repeat(first|refine blk_drewN ?_ _|refine blk_drew ?_|refine blk_alloc ?_ _));exact BK460.1) hb);have n4_:=qAm (blk_below (g:=gb472) (o:=.cells #[.int .i64 t467,.slice Ao19 t468.length co19] 28 (0,0)) (by (with_reducible repeat(first|refine blk_drewN ?_ _|refine blk_drew ?_|refine blk_alloc ?_ _));refine blk_far ?_ NB472_484.1 _;(with_reducible repeat(first|refine blk_drewN ?_ _|refine blk_drew ?_|refine blk_alloc ?_ _));refine blk_far ?_ NB472_484.1 _;(with_reducible repeat(first|refine blk_drewN ?_ _|refine blk_drew ?_|refine blk_alloc ?_ _));exact BK472.1) hb);have n5_:=qAm (blk_below (g:=gb484) (o:=.cells #[.int .i64 t479,.slice Ao29 t480.length co29] 28 (0,0)) (by (with_reducible repeat(first|refine blk_drewN ?_ _|refine blk_drew ?_|refine blk_alloc ?_ _));refine blk_put (cs:=#[.int .i64 t479,.slice none 0 0]) ?_ 1 _ rfl;(with_reducible repeat(first|refine blk_drewN ?_ _|refine blk_drew ?_|refine blk_alloc ?_ _));refine blk_put (cs:=#[.int .i64 0,.slice none 0 0]) ?_ 0 _ rfl;(with_reducible repeat(first|refine blk_drewN ?_ _|refine blk_drew ?_|refine blk_alloc ?_ _));exact BK484.1) hb);have n6_:=qAm (below_step qB25 hb);clear HO470;clear HO482;clear BK459;clear BK460;clear BK472;clear BK484;clear HB;have HO470:=n0_;have HO482:=n1_;have BK459:=n2_;have BK460:=n3_;have BK472:=n4_;have BK484:=n5_;have HB:=n6_;clear n0_ n1_ n2_ n3_ n4_ n5_ n6_;(try clear hb);(try clear hb2);(try clear hk);(try clear hi)));go_meet
   case rel=>exact⟨_,((t483 !=t471)),qB178,H',⟨by first|omega|exact Nat.le_refl _⟩,⟨by (with_reducible repeat(first|apply Kd.R_alloc|apply Kd.R_drewN|apply Kd.R_drew));exact HO470.1⟩,⟨by (with_reducible repeat(first|apply Kd.R_alloc|apply Kd.R_drewN|apply Kd.R_drew));exact HO482.1⟩,⟨by (with_reducible repeat(first|refine blk_drewN ?_ _|refine blk_drew ?_|refine blk_alloc ?_ _));exact BK459.1⟩,⟨by (with_reducible repeat(first|refine blk_drewN ?_ _|refine blk_drew ?_|refine blk_alloc ?_ _));exact BK460.1⟩,⟨by (with_reducible repeat(first|refine blk_drewN ?_ _|refine blk_drew ?_|refine blk_alloc ?_ _));exact BK472.1⟩,⟨by (with_reducible repeat(first|refine blk_drewN ?_ _|refine blk_drew ?_|refine blk_alloc ?_ _));exact BK484.1⟩,⟨by repeat(first|(with_reducible first|exact HB.1|apply below_alloc|apply pw_below_drewN|apply below_drew1|refine below_set ?_ GE459.1|refine below_set ?_ GE460.1|refine below_set ?_ GE472.1|refine below_set ?_ GE484.1)|exact HB.1)⟩⟩
  ·replace c32:=Bool.eq_false_iff.mpr c32;subst c32;have H1:(laws_FnExactOrthogonalSum.j0 k t471 true a0_0 a0_1 a0_2 a1_0 a1_1 a1_2 t467 t468 t479 t480)=some true:=by rw [if_neg (show ¬(false=true) by decide)] at H;exact H
   exact(laws_FnExactOrthogonalSum.j0_no _ _ _ _ _ _ _ _ _ _ _ _ H1).elim
 case rest=>
  clear HC9;try clear c1
  try clear c2
  try clear p2
  try clear c3
  try clear c4
  try clear c14
  try clear c19
  try clear c25
  try clear c32
  try clear c33
  try clear c34
  try clear c35
  try clear c37
  try clear c38
  try clear c41
  try clear c42
  try clear c43
  try clear c45
  try clear c46
  try clear hcz36_0
  try clear hcz36_1
  try clear hcz39_0
  try clear hcz39_1
  try clear hcz44_0
  try clear hcz44_1
  try clear hcz47_0
  try clear hcz47_1
  try clear hfz36_0
  try clear hfz36_1
  try clear hfz39_0
  try clear hfz39_1
  try clear hfz44_0
  try clear hfz44_1
  try clear hfz47_0
  try clear hfz47_1
  obtain⟨kq,x37_8,rfl,HA,HJ8,HO_473001,HO_485001,BK459,BK460,BK472,BK484,HB⟩:=hcut;cases kq with
  |zero=>exact absurd HA.1 (by simp [laws_FnExactOrthogonalSum.j0])
  |succ kj8=>
   have H:=HA.1;clear HA;simp only [laws_FnExactOrthogonalSum.j0] at H
   by_cases c49:x37_8=true
   ·subst c49;have H1:(some false)=some true:=by rw [if_pos rfl] at H;exact H
    cases H1
   ·replace c49:=Bool.eq_false_iff.mpr c49;subst c49;have H1:((laws_markCyclo.f kj8 t479 t480 1).bind fun bt486=>((laws_heldCyclo.f kj8 t479 bt486.2 1).bind fun t488=>(if t488<0 then (some false) else (if t488=bt486.1 then ((laws_toCharacter.f a0_0 a0_1 a0_2).bind fun bt489=>((laws_toCharacter.f a1_0 a1_1 a1_2).bind fun bt492=>((impl_OrthogonalSum.f kj8 bt489.1 bt489.2.1 bt489.2.2 bt492.1 bt492.2.1 bt492.2.2).bind fun bt495=>((laws_eqCyclo.f kj8 bt495.1 bt495.2.1 t467 t468).bind fun t501=>(if t501=true then (laws_FnExactOrthogonalSum.j1 kj8 bt486.1 (bt495.2.2 !=t471) t479 bt486.2) else (laws_FnExactOrthogonalSum.j1 kj8 bt486.1 true t479 bt486.2)))))) else (some false)))))=some true:=by rw [if_neg (show ¬(false=true) by decide)] at H;exact H
    clear H;have H:=H1;clear H1;replace H:=qOb H;obtain⟨⟨t486,t487⟩,A500,H⟩:=H;replace H:((laws_heldCyclo.f kj8 t479 t487 1).bind fun t488=>(if t488<0 then (some false) else (if t488=t486 then ((laws_toCharacter.f a0_0 a0_1 a0_2).bind fun bt489=>((laws_toCharacter.f a1_0 a1_1 a1_2).bind fun bt492=>((impl_OrthogonalSum.f kj8 bt489.1 bt489.2.1 bt489.2.2 bt492.1 bt492.2.1 bt492.2.2).bind fun bt495=>((laws_eqCyclo.f kj8 bt495.1 bt495.2.1 t467 t468).bind fun t501=>(if t501=true then (laws_FnExactOrthogonalSum.j1 kj8 t486 (bt495.2.2 !=t471) t479 t487) else (laws_FnExactOrthogonalSum.j1 kj8 t486 true t479 t487)))))) else (some false))))=some true:=H;have A50:=qAm A500;clear A500;replace H:=qOb H;obtain⟨t488,A510,H⟩:=H;replace H:(if t488<0 then (some false) else (if t488=t486 then ((laws_toCharacter.f a0_0 a0_1 a0_2).bind fun bt489=>((laws_toCharacter.f a1_0 a1_1 a1_2).bind fun bt492=>((impl_OrthogonalSum.f kj8 bt489.1 bt489.2.1 bt489.2.2 bt492.1 bt492.2.1 bt492.2.2).bind fun bt495=>((laws_eqCyclo.f kj8 bt495.1 bt495.2.1 t467 t468).bind fun t501=>(if t501=true then (laws_FnExactOrthogonalSum.j1 kj8 t486 (bt495.2.2 !=t471) t479 t487) else (laws_FnExactOrthogonalSum.j1 kj8 t486 true t479 t487)))))) else (some false)))=some true:=H;have A51:=qAm A510;clear A510
    by_cases c52:t488<0
    ·rw [if_pos c52] at H;cases H
    ·rw [if_neg c52] at H;have c52b0:decide (t488<0)=false:=decide_eq_false c52;clear c52
     by_cases c60:t488=t486
     ·rw [if_pos c60] at H;have c60b0:(t488==t486)=true:=beq_iff_eq.mpr c60;have c60b1:(t488 !=t486)=false:=bne_eq_false_iff_eq.mpr c60;clear c60;replace H:=qOb H;obtain⟨⟨t489,t490,t491⟩,A610,H⟩:=H;replace H:((laws_toCharacter.f a1_0 a1_1 a1_2).bind fun bt492=>((impl_OrthogonalSum.f kj8 t489 t490 t491 bt492.1 bt492.2.1 bt492.2.2).bind fun bt495=>((laws_eqCyclo.f kj8 bt495.1 bt495.2.1 t467 t468).bind fun t501=>(if t501=true then (laws_FnExactOrthogonalSum.j1 kj8 t486 (bt495.2.2 !=t471) t479 t487) else (laws_FnExactOrthogonalSum.j1 kj8 t486 true t479 t487)))))=some true:=H;have A61:=qAm A610;clear A610;replace H:=qOb H;obtain⟨⟨t492,t493,t494⟩,A620,H⟩:=H;replace H:((impl_OrthogonalSum.f kj8 t489 t490 t491 t492 t493 t494).bind fun bt495=>((laws_eqCyclo.f kj8 bt495.1 bt495.2.1 t467 t468).bind fun t501=>(if t501=true then (laws_FnExactOrthogonalSum.j1 kj8 t486 (bt495.2.2 !=t471) t479 t487) else (laws_FnExactOrthogonalSum.j1 kj8 t486 true t479 t487))))=some true:=H;have A62:=qAm A620;clear A620;replace H:=qOb H;obtain⟨⟨t495,t496,t499⟩,A630,H⟩:=H;replace H:((laws_eqCyclo.f kj8 t495 t496 t467 t468).bind fun t501=>(if t501=true then (laws_FnExactOrthogonalSum.j1 kj8 t486 (t499 !=t471) t479 t487) else (laws_FnExactOrthogonalSum.j1 kj8 t486 true t479 t487)))=some true:=H;have A63:=qAm A630;clear A630;have HC64:=qAm H;clear H;have hnb65:=NB484_459.1;have hnc65:=NB459_484.1;have hnb66:=NB484_460.1;have hnc66:=NB460_484.1;have hnb67:=NB484_472.1;have hnc67:=NB472_484.1;have hcz68_0:wc.cell? ⟨gb484,0,none⟩=some (.int .i64 t479):=(blk_cell BK484.1 0).trans rfl;have hcz68_1:wc.cell? ⟨gb484,1,none⟩=some (.slice Ao29 t480.length co29):=(blk_cell BK484.1 1).trans rfl;have hfz68_0:=blk_frozen BK484.1 0;have hfz68_1:=blk_frozen BK484.1 1;try go_wp2_with (first|((with_reducible refine gate_callee (f:=15) rfl ?_);refine goesL_ (some 40) rfl rfl Try.func15 (by kernel_rfl) rfl #[.agg #[.int .i64 t479,.slice Ao29 t480.length co29],.int .i64 1] rfl qB90 ?_;(with_reducible refine(laws_markCyclo.calls kj8 t479 (fun k_=>some k_=(.slice Ao29 t480.length co29:Value).ownBlock) (.slice Ao29 t480.length co29) t480 1 t486 t487 w _ ?side1 ?side2 A50.1).mono ?_);(case side1=>repeat(first|(with_reducible first|exact HB.1|apply below_alloc|apply pw_below_drewN|apply below_drew1|refine below_set ?_ GE459.1|refine below_set ?_ GE460.1|refine below_set ?_ GE472.1|refine below_set ?_ GE484.1)|exact HB.1));(case side2=>exact Kd.R_tight rfl HO_485001.1);rintro e w69 ⟨rfl,hy0,hb,hkp⟩;refine⟨_,rfl,?_⟩;have n0_:=qAm (Kd.R_mono (ok':=fun k_=>some k_≠(.slice Ao29 t480.length co29:Value).ownBlock) (Kd.R_keptB (HO_473001.1) hkp (fun k_ hk_ hs_=>(hk_) hs_)) (fun k_ hk_=>hk_.1));have n1_:=qAm (Kd.R_reok rfl hy0 (fun k_ e_=>HO_485001.1.1 k_ e_));have n2_:=qAm (blk_kept qB137 hkp (fun hs_=>(fun e_=>(Kd.R_ne HO_485001.1 BK459.1 (by decide)) e_) hs_));have n3_:=qAm (blk_kept qB138 hkp (fun hs_=>(fun e_=>(Kd.R_ne HO_485001.1 BK460.1 (by decide)) e_) hs_));have n4_:=qAm (blk_kept qB139 hkp (fun hs_=>(fun e_=>(Kd.R_ne HO_485001.1 BK472.1 (by decide)) e_) hs_));have n5_:=qAm (blk_kept qB140 hkp (fun hs_=>(fun e_=>(Kd.R_ne HO_485001.1 BK484.1 (by decide)) e_) hs_));have n6_:=qAm (hb);clear HO_473001;clear HO_485001;clear BK459;clear BK460;clear BK472;clear BK484;clear HB;have HO_473001:=n0_;have HO_485001:=n1_;have BK459:=n2_;have BK460:=n3_;have BK472:=n4_;have BK484:=n5_;have HB:=n6_;clear n0_ n1_ n2_ n3_ n4_ n5_ n6_;(try clear hb);(try clear hkp);(try clear hy0);have hcz70_0:w69.cell? ⟨gb484,0,none⟩=some (.int .i64 t479):=(blk_cell BK484.1 0).trans rfl;have hcz70_1:w69.cell? ⟨gb484,1,none⟩=some (.slice Ao29 t480.length co29):=(blk_cell BK484.1 1).trans rfl;have hfz70_0:=blk_frozen BK484.1 0;have hfz70_1:=blk_frozen BK484.1 1)|((with_reducible refine gate_callee (f:=26) rfl ?_);refine goesL_ (some 43) rfl rfl Try.func26 (by kernel_rfl) rfl #[.agg #[.int .i64 t479,.slice Ao29 t487.length co29],.int .i64 1] rfl (by (try simp only [List.map_toArray,List.map_cons,List.map_nil]);first|done|(rw [show t487.length=t480.length from (Kd.R_reads' HO_485001.1).1.symm] <;> rfl)|rfl|(simp only [List.length_drop,List.length_take];rfl)) ?_;(with_reducible refine(laws_heldCyclo.calls kj8 t479 _ _ t487 1 t488 _ ?side1 ?side2 A51.1).mono ?_);(case side1=>repeat(first|exact(Kd.R_reads' HO_485001.1).2.2|(with_reducible refine Kd.C_alloc ?_ _)|(with_reducible refine Kd.C_drewN ?_ _)|(with_reducible refine Kd.C_drew ?_)));(case side2=>rw [show t487.length=t480.length from (Kd.R_reads' HO_485001.1).1.symm];exact(Kd.R_reads' HO_485001.1).2.1);rintro e w71 ⟨rfl,hb⟩;refine⟨_,rfl,?_⟩;have n0_:=qAm (Kd.R_below qB146 hb);have n1_:=qAm (Kd.R_below qB147 hb);have n2_:=qAm (blk_below (g:=gb459) (o:=.cells #[.int .i64 a0_0,.int .i64 a0_1,.int .i64 a0_2] 36 (0,0)) qB137 hb);have n3_:=qAm (blk_below (g:=gb460) (o:=.cells #[.int .i64 a1_0,.int .i64 a1_1,.int .i64 a1_2] 36 (0,0)) qB138 hb);have n4_:=qAm (blk_below (g:=gb472) (o:=.cells #[.int .i64 t467,.slice Ao19 t468.length co19] 28 (0,0)) qB139 hb);have n5_:=qAm (blk_below (g:=gb484) (o:=.cells #[.int .i64 t479,.slice Ao29 t480.length co29] 28 (0,0)) qB140 hb);have n6_:=qAm (below_step qB25 hb);clear HO_473001;clear HO_485001;clear BK459;clear BK460;clear BK472;clear BK484;clear HB;have HO_473001:=n0_;have HO_485001:=n1_;have BK459:=n2_;have BK460:=n3_;have BK472:=n4_;have BK484:=n5_;have HB:=n6_;clear n0_ n1_ n2_ n3_ n4_ n5_ n6_;(try clear hb);(try clear hb2);(try clear hk);(try clear hi)))
      have n0_:=qAm (Kd.R_drew HO_473001.1);have n1_:=qAm (Kd.R_drew HO_485001.1);have n2_:=qAm (blk_drew BK459.1);have n3_:=qAm (blk_drew BK460.1);have n4_:=qAm (blk_drew BK472.1);have n5_:=qAm (blk_drew BK484.1);have n6_:=qAm (below_drew1 HB.1);clear HO_473001 HO_485001 BK459 BK460 BK472 BK484 HB;have HO_473001:=n0_;have HO_485001:=n1_;have BK459:=n2_;have BK460:=n3_;have BK472:=n4_;have BK484:=n5_;have HB:=n6_;clear n0_ n1_ n2_ n3_ n4_ n5_ n6_;refine start_ (n:=11) (S:=fun w'=>w'.cell? ⟨gb459,0,none⟩=some (.int .i64 a0_0)∧w'.cell? ⟨gb459,1,none⟩=some (.int .i64 a0_1)∧w'.cell? ⟨gb459,2,none⟩=some (.int .i64 a0_2)∧w'.cell? ⟨gb460,0,none⟩=some (.int .i64 a1_0)∧w'.cell? ⟨gb460,1,none⟩=some (.int .i64 a1_1)∧w'.cell? ⟨gb460,2,none⟩=some (.int .i64 a1_2)) (ds:=[]) #[false,false,false,false,false,false,false,false,false,false,false] (by kernel_rfl) rfl rfl ⟨(blk_cell BK459.1 0).trans rfl,(blk_cell BK459.1 1).trans rfl,(blk_cell BK459.1 2).trans rfl,(blk_cell BK460.1 0).trans rfl,(blk_cell BK460.1 1).trans rfl,(blk_cell BK460.1 2).trans rfl⟩ (fun hHeld=>?_);refine with_tabW laws_FnExactOrthogonalSum.tab13 laws_FnExactOrthogonalSum.bits13 (fun HT_ HW_=>?_);generalize w71.drew=w72 at HO_473001 HO_485001 BK459 BK460 BK472 BK484 HB hHeld ⊢;refine take_ (i:=0) (N:=some 50) (v:=?_) (a':=?_) #[true,false,false,false,false,false,false,false,false,false,false] rfl rfl (take_ofW HT_.1 HW_.1 (by kernel_rfl)) (fun _ _ _ h=>h) (Or.inl ⟨by rfl,?_⟩) hHeld ?_ ?_;rotate_left
      ·rintro w' ⟨s0,s1,s2,s3,s4,s5⟩;go_simp;with_reducible rfl
      rotate_left
      ·simp only [Act.put,qSa,qSb,qSc,i64_w,i32_w];rfl
      refine take_ (i:=2) (N:=some 52) (v:=?_) (a':=?_) #[true,false,true,false,false,false,false,false,false,false,false] rfl rfl (take_ofW HT_.1 HW_.1 (by kernel_rfl)) (fun _ _ _ h=>h) (Or.inl ⟨by rfl,?_⟩) hHeld ?_ ?_;rotate_left
      ·rintro w' ⟨s0,s1,s2,s3,s4,s5⟩;go_simp;with_reducible rfl
      rotate_left
      ·simp only [Act.put,qSa,qSb,qSc,i64_w,i32_w];rfl
      refine join_ (σ:=Value×Nat) 2 #[true,true,true,true,true,true,true,true,true,false,false] (fun s_=>[(51,.agg #[.int .i64 t489,.int .i64 t490,.int .i64 t491]),(53,.agg #[.int .i64 t492,.int .i64 t493,.int .i64 t494]),(54,.tuple #[.agg #[.int .i64 t495,s_.1],.int .i64 t499]),(11,.pointer (some ⟨s_.2,0,none⟩)),(49,.tuple #[.agg #[.int .i64 t495,s_.1],.int .i64 t499]),(55,.agg #[.int .i64 t495,s_.1]),(56,.int .i64 t499)]) (fun s_ w'=>(w'.cell? ⟨gb459,0,none⟩=some (.int .i64 a0_0)∧w'.cell? ⟨gb459,1,none⟩=some (.int .i64 a0_1)∧w'.cell? ⟨gb459,2,none⟩=some (.int .i64 a0_2)∧w'.cell? ⟨gb460,0,none⟩=some (.int .i64 a1_0)∧w'.cell? ⟨gb460,1,none⟩=some (.int .i64 a1_1)∧w'.cell? ⟨gb460,2,none⟩=some (.int .i64 a1_2))∧(Kd.R (Kd.int .i64) 2 w' w.heap.size (fun k_=>some k_≠(.slice Ao19 t468.length co19:Value).ownBlock∧some k_≠(.slice Ao29 t480.length co29:Value).ownBlock) s_.1 t496)∧(Kd.R (Kd.int .i64) 2 w' w.heap.size (fun k_=>some k_≠(s_.1:Value).ownBlock∧some k_≠(.slice Ao29 t480.length co29:Value).ownBlock) (.slice Ao19 t468.length co19) t468)∧(Kd.R (Kd.int .i64) 2 w' w.heap.size (fun k_=>some k_≠(s_.1:Value).ownBlock∧some k_≠(.slice Ao19 t468.length co19:Value).ownBlock) (.slice Ao29 t480.length co29) t487)∧(w'.heap[gb459]? =some (.cells #[.int .i64 a0_0,.int .i64 a0_1,.int .i64 a0_2] 36 (0,0)))∧(w'.heap[gb460]? =some (.cells #[.int .i64 a1_0,.int .i64 a1_1,.int .i64 a1_2] 36 (0,0)))∧(w'.heap[gb472]? =some (.cells #[.int .i64 t467,.slice Ao19 t468.length co19] 28 (0,0)))∧(w'.heap[gb484]? =some (.cells #[.int .i64 t479,.slice Ao29 t480.length co29] 28 (0,0)))∧(w'.heap[s_.2]? =some (.cells #[.int .i64 0,.slice none 0 0] 28 (0,0)))∧(w.heap.size≤s_.2)∧(w.heap.size≤s_.2)∧(gb459≠s_.2)∧(s_.2≠gb459)∧(gb460≠s_.2)∧(s_.2≠gb460)∧(gb472≠s_.2)∧(s_.2≠gb472)∧(gb484≠s_.2)∧(s_.2≠gb484)∧(Below w.heap.size w w')) ?_ ?_;rotate_left
      ·intro hCont;refine two_ (i:=1) (j:=8) (Ni:=some 51) (Nj:=some 11) #[true,true,true,false,false,false,false,false,false,false,false] #[true,false,true,false,false,false,false,false,true,false,false] rfl rfl rfl rfl (two_of HT_.1 (by kernel_rfl)) (by decide) (by decide) (fun K hK=>?_) (fun K hK=>?_)
       ·skip;refine goes_ Try.func19 (by kernel_rfl) rfl #[.agg #[.int .i64 a0_0,.int .i64 a0_1,.int .i64 a0_2]] (by rfl) rfl rfl qB90 ?_;with_reducible refine(laws_toCharacter.calls a0_0 a0_1 a0_2 t489 t490 t491 _ A61.1).mono ?_
        rintro e w73 ⟨rfl,hb⟩;refine⟨_,rfl,?_⟩;have n0_:=qAm (Kd.R_below qB146 hb);have n1_:=qAm (Kd.R_below qB147 hb);have n2_:=qAm (blk_below (g:=gb459) (o:=.cells #[.int .i64 a0_0,.int .i64 a0_1,.int .i64 a0_2] 36 (0,0)) qB137 hb);have n3_:=qAm (blk_below (g:=gb460) (o:=.cells #[.int .i64 a1_0,.int .i64 a1_1,.int .i64 a1_2] 36 (0,0)) qB138 hb);have n4_:=qAm (blk_below (g:=gb472) (o:=.cells #[.int .i64 t467,.slice Ao19 t468.length co19] 28 (0,0)) qB139 hb);have n5_:=qAm (blk_below (g:=gb484) (o:=.cells #[.int .i64 t479,.slice Ao29 t480.length co29] 28 (0,0)) qB140 hb);have n6_:=qAm (below_step qB25 hb);clear HO_473001 HO_485001 BK459 BK460 BK472 BK484 HB;have HO_473001:=n0_;have HO_485001:=n1_;have BK459:=n2_;have BK460:=n3_;have BK472:=n4_;have BK484:=n5_;have HB:=n6_;clear n0_ n1_ n2_ n3_ n4_ n5_ n6_
        (try clear hb)
        (try clear hb2)
        (try clear hk)
        (try clear hi)
        refine hK.out _ _ ⟨(blk_cell BK459.1 0).trans rfl,(blk_cell BK459.1 1).trans rfl,(blk_cell BK459.1 2).trans rfl,(blk_cell BK460.1 0).trans rfl,(blk_cell BK460.1 1).trans rfl,(blk_cell BK460.1 2).trans rfl⟩ (fun hHeld=>?_);clear hK K;refine norm_ (a':=?_) ?_ ?_;rotate_left
        ·show Act.put _ (some 51) _=_
         simp only [Act.put,qSa,qSb,qSc,i64_w,i32_w];rfl
        refine two_ (i:=3) (j:=8) (Ni:=some 53) (Nj:=some 11) #[true,true,true,true,false,false,false,false,false,false,false] #[true,true,true,false,false,false,false,false,true,false,false] rfl rfl rfl rfl (two_of HT_.1 (by kernel_rfl)) (by decide) (by decide) (fun K hK=>?_) (fun K hK=>?_)
        ·skip;refine goes_ Try.func19 (by kernel_rfl) rfl #[.agg #[.int .i64 a1_0,.int .i64 a1_1,.int .i64 a1_2]] (by rfl) rfl rfl qB90 ?_;with_reducible refine(laws_toCharacter.calls a1_0 a1_1 a1_2 t492 t493 t494 _ A62.1).mono ?_
         rintro e w74 ⟨rfl,hb⟩;refine⟨_,rfl,?_⟩;have n0_:=qAm (Kd.R_below qB146 hb);have n1_:=qAm (Kd.R_below qB147 hb);have n2_:=qAm (blk_below (g:=gb459) (o:=.cells #[.int .i64 a0_0,.int .i64 a0_1,.int .i64 a0_2] 36 (0,0)) qB137 hb);have n3_:=qAm (blk_below (g:=gb460) (o:=.cells #[.int .i64 a1_0,.int .i64 a1_1,.int .i64 a1_2] 36 (0,0)) qB138 hb);have n4_:=qAm (blk_below (g:=gb472) (o:=.cells #[.int .i64 t467,.slice Ao19 t468.length co19] 28 (0,0)) qB139 hb);have n5_:=qAm (blk_below (g:=gb484) (o:=.cells #[.int .i64 t479,.slice Ao29 t480.length co29] 28 (0,0)) qB140 hb);have n6_:=qAm (below_step qB25 hb);clear HO_473001 HO_485001 BK459 BK460 BK472 BK484 HB;have HO_473001:=n0_;have HO_485001:=n1_;have BK459:=n2_;have BK460:=n3_;have BK472:=n4_;have BK484:=n5_;have HB:=n6_;clear n0_ n1_ n2_ n3_ n4_ n5_ n6_
         (try clear hb)
         (try clear hb2)
         (try clear hk)
         (try clear hi)
         refine hK.out _ _ ⟨(blk_cell BK459.1 0).trans rfl,(blk_cell BK459.1 1).trans rfl,(blk_cell BK459.1 2).trans rfl,(blk_cell BK460.1 0).trans rfl,(blk_cell BK460.1 1).trans rfl,(blk_cell BK460.1 2).trans rfl⟩ (fun hHeld=>?_);clear hK K;refine norm_ (a':=?_) ?_ ?_;rotate_left
         ·show Act.put _ (some 53) _=_
          simp only [Act.put,qSa,qSb,qSc,i64_w,i32_w];rfl
         refine two_ (i:=4) (j:=8) (Ni:=some 54) (Nj:=some 11) #[true,true,true,true,true,false,false,false,false,false,false] #[true,true,true,true,false,false,false,false,true,false,false] rfl rfl rfl rfl (two_of HT_.1 (by kernel_rfl)) (by decide) (by decide) (fun K hK=>?_) (fun K hK=>?_)
         ·skip;refine goes_ Try.func25 (by kernel_rfl) rfl #[.agg #[.int .i64 t489,.int .i64 t490,.int .i64 t491],.agg #[.int .i64 t492,.int .i64 t493,.int .i64 t494]] (by rfl) rfl rfl qB90 ?_;with_reducible refine(impl_OrthogonalSum.calls kj8 t489 t490 t491 t492 t493 t494 t495 t496 t499 _ A63.1).mono ?_
          rintro e w75 ⟨v497,rfl,ho0,hb⟩;refine⟨_,rfl,?_⟩;have n0_:=qAm (Kd.R_elder' qB146 (Kd.R_base ho0) hb);have n1_:=qAm (Kd.R_elder' qB147 (Kd.R_base ho0) hb);have n2_:=qAm (Kd.R_lower (Kd.R_new' (Kd.R_new' ho0 (Kd.R_lt qB146)) (Kd.R_lt qB147)) (below_size qB25));have n3_:=qAm (blk_below (g:=gb459) (o:=.cells #[.int .i64 a0_0,.int .i64 a0_1,.int .i64 a0_2] 36 (0,0)) qB137 hb);have n4_:=qAm (blk_below (g:=gb460) (o:=.cells #[.int .i64 a1_0,.int .i64 a1_1,.int .i64 a1_2] 36 (0,0)) qB138 hb);have n5_:=qAm (blk_below (g:=gb472) (o:=.cells #[.int .i64 t467,.slice Ao19 t468.length co19] 28 (0,0)) qB139 hb);have n6_:=qAm (blk_below (g:=gb484) (o:=.cells #[.int .i64 t479,.slice Ao29 t480.length co29] 28 (0,0)) qB140 hb);have n7_:=qAm (below_step qB25 hb);clear HO_473001 HO_485001 BK459 BK460 BK472 BK484 HB;have HO_473001:=n0_;have HO_485001:=n1_;have HO498:=n2_;have BK459:=n3_;have BK460:=n4_;have BK472:=n5_;have BK484:=n6_;have HB:=n7_;clear n0_ n1_ n2_ n3_ n4_ n5_ n6_ n7_
          (try clear hb)
          (try clear hb2)
          (try clear hk)
          (try clear hi)
          (try clear ho0)
          refine hK.out _ _ ⟨(blk_cell BK459.1 0).trans rfl,(blk_cell BK459.1 1).trans rfl,(blk_cell BK459.1 2).trans rfl,(blk_cell BK460.1 0).trans rfl,(blk_cell BK460.1 1).trans rfl,(blk_cell BK460.1 2).trans rfl⟩ (fun hHeld=>?_);clear hK K;refine norm_ (a':=?_) ?_ ?_;rotate_left
          ·show Act.put _ (some 54) _=_
           simp only [Act.put,qSa,qSb,qSc,i64_w,i32_w];rfl
          refine pure_ (i:=5) (N:=some 49) (v:=?_) (a':=?_) #[true,true,true,true,true,true,false,false,false,false,false] rfl rfl (any_of HT_.1 (by kernel_rfl)) (fun _ _ _ h=>h) (Or.inl ⟨by rfl,?_⟩) ?_ ?_;rotate_left
          ·intro w';go_simp;with_reducible rfl
          rotate_left
          ·simp only [Act.put,qSa,qSb,qSc,i64_w,i32_w];rfl
          refine pure_ (i:=6) (N:=some 55) (v:=?_) (a':=?_) #[true,true,true,true,true,true,true,false,false,false,false] rfl rfl (any_of HT_.1 (by kernel_rfl)) (fun _ _ _ h=>h) (Or.inl ⟨by rfl,?_⟩) ?_ ?_;rotate_left
          ·intro w';go_simp;with_reducible rfl
          rotate_left
          ·simp only [Act.put,qSa,qSb,qSc,i64_w,i32_w];rfl
          refine pure_ (i:=7) (N:=some 56) (v:=?_) (a':=?_) #[true,true,true,true,true,true,true,true,false,false,false] rfl rfl (any_of HT_.1 (by kernel_rfl)) (fun _ _ _ h=>h) (Or.inl ⟨by rfl,?_⟩) ?_ ?_;rotate_left
          ·intro w';go_simp;with_reducible rfl
          rotate_left
          ·simp only [Act.put,qSa,qSb,qSc,i64_w,i32_w];rfl
          refine one_ (i:=8) (N:=some 11) #[true,true,true,true,true,true,true,true,true,false,false] rfl rfl (one_of HT_.1 (by kernel_rfl)) (by decide) (fun K hK=>?_);refine box_step ?hg (N:=11) ?hd (cs:=#[.int .i64 0,.slice none 0 0]) (t:=28) ?hr ?_;(case hd=>rfl);(case hg=>rfl);(case hr=>first|(go_simp;done)|(go_simp;rfl));intro gb500 hg w76 hbox hb;have n0_:=qAm (Kd.R_below qB146 hb);have n1_:=qAm (Kd.R_below qB147 hb);have n2_:=qAm (Kd.R_below (by (with_reducible repeat(first|apply Kd.R_alloc|apply Kd.R_drewN|apply Kd.R_drew));exact HO498.1) hb);have n3_:=qAm (blk_below (g:=gb459) (o:=.cells #[.int .i64 a0_0,.int .i64 a0_1,.int .i64 a0_2] 36 (0,0)) qB137 hb);have n4_:=qAm (blk_below (g:=gb460) (o:=.cells #[.int .i64 a1_0,.int .i64 a1_1,.int .i64 a1_2] 36 (0,0)) qB138 hb);have n5_:=qAm (blk_below (g:=gb472) (o:=.cells #[.int .i64 t467,.slice Ao19 t468.length co19] 28 (0,0)) qB139 hb);have n6_:=qAm (blk_below (g:=gb484) (o:=.cells #[.int .i64 t479,.slice Ao29 t480.length co29] 28 (0,0)) qB140 hb);have n7_:=qAm (below_step qB25 hb);have n8_:=qAm (hbox);have n9_:=qAm ((by rw [hg];exact(below_size qB25):w.heap.size≤gb500));have n10_:=qAm ((by rw [hg];exact(below_size qB25):w.heap.size≤gb500));have n11_:=qAm ((by rw [hg];exact Nat.ne_of_lt (blk_lt (g:=gb459) (o:=.cells #[.int .i64 a0_0,.int .i64 a0_1,.int .i64 a0_2] 36 (0,0)) qB137):gb459≠gb500));have n12_:=qAm ((by rw [hg];exact Nat.ne_of_gt (blk_lt (g:=gb459) (o:=.cells #[.int .i64 a0_0,.int .i64 a0_1,.int .i64 a0_2] 36 (0,0)) qB137):gb500≠gb459));have n13_:=qAm ((by rw [hg];exact Nat.ne_of_lt (blk_lt (g:=gb460) (o:=.cells #[.int .i64 a1_0,.int .i64 a1_1,.int .i64 a1_2] 36 (0,0)) qB138):gb460≠gb500));have n14_:=qAm ((by rw [hg];exact Nat.ne_of_gt (blk_lt (g:=gb460) (o:=.cells #[.int .i64 a1_0,.int .i64 a1_1,.int .i64 a1_2] 36 (0,0)) qB138):gb500≠gb460));have n15_:=qAm ((by rw [hg];exact Nat.ne_of_lt (blk_lt (g:=gb472) (o:=.cells #[.int .i64 t467,.slice Ao19 t468.length co19] 28 (0,0)) qB139):gb472≠gb500));have n16_:=qAm ((by rw [hg];exact Nat.ne_of_gt (blk_lt (g:=gb472) (o:=.cells #[.int .i64 t467,.slice Ao19 t468.length co19] 28 (0,0)) qB139):gb500≠gb472));have n17_:=qAm ((by rw [hg];exact Nat.ne_of_lt (blk_lt (g:=gb484) (o:=.cells #[.int .i64 t479,.slice Ao29 t480.length co29] 28 (0,0)) qB140):gb484≠gb500));have n18_:=qAm ((by rw [hg];exact Nat.ne_of_gt (blk_lt (g:=gb484) (o:=.cells #[.int .i64 t479,.slice Ao29 t480.length co29] 28 (0,0)) qB140):gb500≠gb484));clear HO_473001 HO_485001 HO498 BK459 BK460 BK472 BK484 HB;have HO_473001:=n0_;have HO_485001:=n1_;have HO498:=n2_;have BK459:=n3_;have BK460:=n4_;have BK472:=n5_;have BK484:=n6_;have HB:=n7_;have BK500:=n8_;have GW500:=n9_;have GE500:=n10_;have NB459_500:=n11_;have NB500_459:=n12_;have NB460_500:=n13_;have NB500_460:=n14_;have NB472_500:=n15_;have NB500_472:=n16_;have NB484_500:=n17_;have NB500_484:=n18_;clear n0_ n1_ n2_ n3_ n4_ n5_ n6_ n7_ n8_ n9_ n10_ n11_ n12_ n13_ n14_ n15_ n16_ n17_ n18_ hb hbox hg;refine hK.out _ _ ⟨(blk_cell BK459.1 0).trans rfl,(blk_cell BK459.1 1).trans rfl,(blk_cell BK459.1 2).trans rfl,(blk_cell BK460.1 0).trans rfl,(blk_cell BK460.1 1).trans rfl,(blk_cell BK460.1 2).trans rfl⟩ (fun hHeld=>?_);clear hK K;refine norm_ (a':=?_) ?_ ?_;rotate_left
          ·show Act.put _ (some 11) _=_
           simp only [Act.put,qSa,qSb,qSc,i64_w,i32_w];rfl
          exact norm_ qB175 (hCont (v497,gb500) _ ⟨hHeld,qB86,qB81,qB82,qB137,qB138,qB139,qB140,qB141,GW500.1,GE500.1,NB459_500.1,NB500_459.1,NB460_500.1,NB500_460.1,NB472_500.1,NB500_472.1,NB484_500.1,NB500_484.1,qB20⟩)
         ·skip;refine box_step ?hg (N:=11) ?hd (cs:=#[.int .i64 0,.slice none 0 0]) (t:=28) ?hr ?_;(case hd=>rfl);(case hg=>rfl);(case hr=>first|(go_simp;done)|(go_simp;rfl));intro gb500 hg w75 hbox hb;have n0_:=qAm (Kd.R_below qB146 hb);have n1_:=qAm (Kd.R_below qB147 hb);have n2_:=qAm (blk_below (g:=gb459) (o:=.cells #[.int .i64 a0_0,.int .i64 a0_1,.int .i64 a0_2] 36 (0,0)) qB137 hb);have n3_:=qAm (blk_below (g:=gb460) (o:=.cells #[.int .i64 a1_0,.int .i64 a1_1,.int .i64 a1_2] 36 (0,0)) qB138 hb);have n4_:=qAm (blk_below (g:=gb472) (o:=.cells #[.int .i64 t467,.slice Ao19 t468.length co19] 28 (0,0)) qB139 hb);have n5_:=qAm (blk_below (g:=gb484) (o:=.cells #[.int .i64 t479,.slice Ao29 t480.length co29] 28 (0,0)) qB140 hb);have n6_:=qAm (below_step qB25 hb);have n7_:=qAm (hbox);have n8_:=qAm ((by rw [hg];exact(below_size qB25):w.heap.size≤gb500));have n9_:=qAm ((by rw [hg];exact(below_size qB25):w.heap.size≤gb500));have n10_:=qAm ((by rw [hg];exact Nat.ne_of_lt (blk_lt (g:=gb459) (o:=.cells #[.int .i64 a0_0,.int .i64 a0_1,.int .i64 a0_2] 36 (0,0)) qB137):gb459≠gb500));have n11_:=qAm ((by rw [hg];exact Nat.ne_of_gt (blk_lt (g:=gb459) (o:=.cells #[.int .i64 a0_0,.int .i64 a0_1,.int .i64 a0_2] 36 (0,0)) qB137):gb500≠gb459));have n12_:=qAm ((by rw [hg];exact Nat.ne_of_lt (blk_lt (g:=gb460) (o:=.cells #[.int .i64 a1_0,.int .i64 a1_1,.int .i64 a1_2] 36 (0,0)) qB138):gb460≠gb500));have n13_:=qAm ((by rw [hg];exact Nat.ne_of_gt (blk_lt (g:=gb460) (o:=.cells #[.int .i64 a1_0,.int .i64 a1_1,.int .i64 a1_2] 36 (0,0)) qB138):gb500≠gb460));have n14_:=qAm ((by rw [hg];exact Nat.ne_of_lt (blk_lt (g:=gb472) (o:=.cells #[.int .i64 t467,.slice Ao19 t468.length co19] 28 (0,0)) qB139):gb472≠gb500));have n15_:=qAm ((by rw [hg];exact Nat.ne_of_gt (blk_lt (g:=gb472) (o:=.cells #[.int .i64 t467,.slice Ao19 t468.length co19] 28 (0,0)) qB139):gb500≠gb472));have n16_:=qAm ((by rw [hg];exact Nat.ne_of_lt (blk_lt (g:=gb484) (o:=.cells #[.int .i64 t479,.slice Ao29 t480.length co29] 28 (0,0)) qB140):gb484≠gb500));have n17_:=qAm ((by rw [hg];exact Nat.ne_of_gt (blk_lt (g:=gb484) (o:=.cells #[.int .i64 t479,.slice Ao29 t480.length co29] 28 (0,0)) qB140):gb500≠gb484));clear HO_473001 HO_485001 BK459 BK460 BK472 BK484 HB;have HO_473001:=n0_;have HO_485001:=n1_;have BK459:=n2_;have BK460:=n3_;have BK472:=n4_;have BK484:=n5_;have HB:=n6_;have BK500:=n7_;have GW500:=n8_;have GE500:=n9_;have NB459_500:=n10_;have NB500_459:=n11_;have NB460_500:=n12_;have NB500_460:=n13_;have NB472_500:=n14_;have NB500_472:=n15_;have NB484_500:=n16_;have NB500_484:=n17_;clear n0_ n1_ n2_ n3_ n4_ n5_ n6_ n7_ n8_ n9_ n10_ n11_ n12_ n13_ n14_ n15_ n16_ n17_ hb hbox hg;refine hK.out _ _ ⟨(blk_cell BK459.1 0).trans rfl,(blk_cell BK459.1 1).trans rfl,(blk_cell BK459.1 2).trans rfl,(blk_cell BK460.1 0).trans rfl,(blk_cell BK460.1 1).trans rfl,(blk_cell BK460.1 2).trans rfl⟩ (fun hHeld=>?_);clear hK K;refine norm_ (a':=?_) ?_ ?_;rotate_left
          ·show Act.put _ (some 11) _=_
           simp only [Act.put,qSa,qSb,qSc,i64_w,i32_w];rfl
          refine one_ (i:=4) (N:=some 54) #[true,true,true,true,true,false,false,false,true,false,false] rfl rfl (one_of HT_.1 (by kernel_rfl)) (by decide) (fun K hK=>?_);refine goes_ Try.func25 (by kernel_rfl) rfl #[.agg #[.int .i64 t489,.int .i64 t490,.int .i64 t491],.agg #[.int .i64 t492,.int .i64 t493,.int .i64 t494]] (by rfl) rfl rfl qB90 ?_;with_reducible refine(impl_OrthogonalSum.calls kj8 t489 t490 t491 t492 t493 t494 t495 t496 t499 _ A63.1).mono ?_
          rintro e w76 ⟨v497,rfl,ho0,hb⟩;refine⟨_,rfl,?_⟩;have n0_:=qAm (Kd.R_elder' qB146 (Kd.R_base ho0) hb);have n1_:=qAm (Kd.R_elder' qB147 (Kd.R_base ho0) hb);have n2_:=qAm (Kd.R_lower (Kd.R_new' (Kd.R_new' ho0 (Kd.R_lt qB146)) (Kd.R_lt qB147)) (below_size qB20));have n3_:=qAm (blk_below (g:=gb459) (o:=.cells #[.int .i64 a0_0,.int .i64 a0_1,.int .i64 a0_2] 36 (0,0)) qB137 hb);have n4_:=qAm (blk_below (g:=gb460) (o:=.cells #[.int .i64 a1_0,.int .i64 a1_1,.int .i64 a1_2] 36 (0,0)) qB138 hb);have n5_:=qAm (blk_below (g:=gb472) (o:=.cells #[.int .i64 t467,.slice Ao19 t468.length co19] 28 (0,0)) qB139 hb);have n6_:=qAm (blk_below (g:=gb484) (o:=.cells #[.int .i64 t479,.slice Ao29 t480.length co29] 28 (0,0)) qB140 hb);have n7_:=qAm (blk_below (g:=gb500) (o:=.cells #[.int .i64 0,.slice none 0 0] 28 (0,0)) qB141 hb);have n8_:=qAm (below_step qB20 hb);clear HO_473001 HO_485001 BK459 BK460 BK472 BK484 BK500 HB;have HO_473001:=n0_;have HO_485001:=n1_;have HO498:=n2_;have BK459:=n3_;have BK460:=n4_;have BK472:=n5_;have BK484:=n6_;have BK500:=n7_;have HB:=n8_;clear n0_ n1_ n2_ n3_ n4_ n5_ n6_ n7_ n8_
          (try clear hb)
          (try clear hb2)
          (try clear hk)
          (try clear hi)
          (try clear ho0)
          refine hK.out _ _ ⟨(blk_cell BK459.1 0).trans rfl,(blk_cell BK459.1 1).trans rfl,(blk_cell BK459.1 2).trans rfl,(blk_cell BK460.1 0).trans rfl,(blk_cell BK460.1 1).trans rfl,(blk_cell BK460.1 2).trans rfl⟩ (fun hHeld=>?_);clear hK K;refine norm_ (a':=?_) ?_ ?_;rotate_left
          ·show Act.put _ (some 54) _=_
           simp only [Act.put,qSa,qSb,qSc,i64_w,i32_w];rfl
          refine pure_ (i:=5) (N:=some 49) (v:=?_) (a':=?_) #[true,true,true,true,true,true,false,false,true,false,false] rfl rfl (any_of HT_.1 (by kernel_rfl)) (fun _ _ _ h=>h) (Or.inl ⟨by rfl,?_⟩) ?_ ?_;rotate_left
          ·intro w';go_simp;with_reducible rfl
          rotate_left
          ·simp only [Act.put,qSa,qSb,qSc,i64_w,i32_w];rfl
          refine pure_ (i:=6) (N:=some 55) (v:=?_) (a':=?_) #[true,true,true,true,true,true,true,false,true,false,false] rfl rfl (any_of HT_.1 (by kernel_rfl)) (fun _ _ _ h=>h) (Or.inl ⟨by rfl,?_⟩) ?_ ?_;rotate_left
          ·intro w';go_simp;with_reducible rfl
          rotate_left
          ·simp only [Act.put,qSa,qSb,qSc,i64_w,i32_w];rfl
          refine pure_ (i:=7) (N:=some 56) (v:=?_) (a':=?_) #[true,true,true,true,true,true,true,true,true,false,false] rfl rfl (any_of HT_.1 (by kernel_rfl)) (fun _ _ _ h=>h) (Or.inl ⟨by rfl,?_⟩) ?_ ?_;rotate_left
          ·intro w';go_simp;with_reducible rfl
          rotate_left
          ·simp only [Act.put,qSa,qSb,qSc,i64_w,i32_w];rfl
          exact norm_ qB175 (hCont (v497,gb500) _ ⟨hHeld,qB86,qB81,qB82,qB137,qB138,qB139,qB140,qB141,GW500.1,GE500.1,NB459_500.1,NB500_459.1,NB460_500.1,NB500_460.1,NB472_500.1,NB500_472.1,NB484_500.1,NB500_484.1,qB20⟩)
        ·skip;refine box_step ?hg (N:=11) ?hd (cs:=#[.int .i64 0,.slice none 0 0]) (t:=28) ?hr ?_;(case hd=>rfl);(case hg=>rfl);(case hr=>first|(go_simp;done)|(go_simp;rfl));intro gb500 hg w74 hbox hb;have n0_:=qAm (Kd.R_below qB146 hb);have n1_:=qAm (Kd.R_below qB147 hb);have n2_:=qAm (blk_below (g:=gb459) (o:=.cells #[.int .i64 a0_0,.int .i64 a0_1,.int .i64 a0_2] 36 (0,0)) qB137 hb);have n3_:=qAm (blk_below (g:=gb460) (o:=.cells #[.int .i64 a1_0,.int .i64 a1_1,.int .i64 a1_2] 36 (0,0)) qB138 hb);have n4_:=qAm (blk_below (g:=gb472) (o:=.cells #[.int .i64 t467,.slice Ao19 t468.length co19] 28 (0,0)) qB139 hb);have n5_:=qAm (blk_below (g:=gb484) (o:=.cells #[.int .i64 t479,.slice Ao29 t480.length co29] 28 (0,0)) qB140 hb);have n6_:=qAm (below_step qB25 hb);have n7_:=qAm (hbox);have n8_:=qAm ((by rw [hg];exact(below_size qB25):w.heap.size≤gb500));have n9_:=qAm ((by rw [hg];exact(below_size qB25):w.heap.size≤gb500));have n10_:=qAm ((by rw [hg];exact Nat.ne_of_lt (blk_lt (g:=gb459) (o:=.cells #[.int .i64 a0_0,.int .i64 a0_1,.int .i64 a0_2] 36 (0,0)) qB137):gb459≠gb500));have n11_:=qAm ((by rw [hg];exact Nat.ne_of_gt (blk_lt (g:=gb459) (o:=.cells #[.int .i64 a0_0,.int .i64 a0_1,.int .i64 a0_2] 36 (0,0)) qB137):gb500≠gb459));have n12_:=qAm ((by rw [hg];exact Nat.ne_of_lt (blk_lt (g:=gb460) (o:=.cells #[.int .i64 a1_0,.int .i64 a1_1,.int .i64 a1_2] 36 (0,0)) qB138):gb460≠gb500));have n13_:=qAm ((by rw [hg];exact Nat.ne_of_gt (blk_lt (g:=gb460) (o:=.cells #[.int .i64 a1_0,.int .i64 a1_1,.int .i64 a1_2] 36 (0,0)) qB138):gb500≠gb460));have n14_:=qAm ((by rw [hg];exact Nat.ne_of_lt (blk_lt (g:=gb472) (o:=.cells #[.int .i64 t467,.slice Ao19 t468.length co19] 28 (0,0)) qB139):gb472≠gb500));have n15_:=qAm ((by rw [hg];exact Nat.ne_of_gt (blk_lt (g:=gb472) (o:=.cells #[.int .i64 t467,.slice Ao19 t468.length co19] 28 (0,0)) qB139):gb500≠gb472));have n16_:=qAm ((by rw [hg];exact Nat.ne_of_lt (blk_lt (g:=gb484) (o:=.cells #[.int .i64 t479,.slice Ao29 t480.length co29] 28 (0,0)) qB140):gb484≠gb500));have n17_:=qAm ((by rw [hg];exact Nat.ne_of_gt (blk_lt (g:=gb484) (o:=.cells #[.int .i64 t479,.slice Ao29 t480.length co29] 28 (0,0)) qB140):gb500≠gb484));clear HO_473001 HO_485001 BK459 BK460 BK472 BK484 HB;have HO_473001:=n0_;have HO_485001:=n1_;have BK459:=n2_;have BK460:=n3_;have BK472:=n4_;have BK484:=n5_;have HB:=n6_;have BK500:=n7_;have GW500:=n8_;have GE500:=n9_;have NB459_500:=n10_;have NB500_459:=n11_;have NB460_500:=n12_;have NB500_460:=n13_;have NB472_500:=n14_;have NB500_472:=n15_;have NB484_500:=n16_;have NB500_484:=n17_;clear n0_ n1_ n2_ n3_ n4_ n5_ n6_ n7_ n8_ n9_ n10_ n11_ n12_ n13_ n14_ n15_ n16_ n17_ hb hbox hg;refine hK.out _ _ ⟨(blk_cell BK459.1 0).trans rfl,(blk_cell BK459.1 1).trans rfl,(blk_cell BK459.1 2).trans rfl,(blk_cell BK460.1 0).trans rfl,(blk_cell BK460.1 1).trans rfl,(blk_cell BK460.1 2).trans rfl⟩ (fun hHeld=>?_);clear hK K;refine norm_ (a':=?_) ?_ ?_;rotate_left
         ·show Act.put _ (some 11) _=_
          simp only [Act.put,qSa,qSb,qSc,i64_w,i32_w];rfl
         refine one_ (i:=3) (N:=some 53) #[true,true,true,true,false,false,false,false,true,false,false] rfl rfl (one_of HT_.1 (by kernel_rfl)) (by decide) (fun K hK=>?_);refine goes_ Try.func19 (by kernel_rfl) rfl #[.agg #[.int .i64 a1_0,.int .i64 a1_1,.int .i64 a1_2]] (by rfl) rfl rfl qB90 ?_;with_reducible refine(laws_toCharacter.calls a1_0 a1_1 a1_2 t492 t493 t494 _ A62.1).mono ?_
         rintro e w75 ⟨rfl,hb⟩;refine⟨_,rfl,?_⟩;have n0_:=qAm (Kd.R_below qB146 hb);have n1_:=qAm (Kd.R_below qB147 hb);have n2_:=qAm (blk_below (g:=gb459) (o:=.cells #[.int .i64 a0_0,.int .i64 a0_1,.int .i64 a0_2] 36 (0,0)) qB137 hb);have n3_:=qAm (blk_below (g:=gb460) (o:=.cells #[.int .i64 a1_0,.int .i64 a1_1,.int .i64 a1_2] 36 (0,0)) qB138 hb);have n4_:=qAm (blk_below (g:=gb472) (o:=.cells #[.int .i64 t467,.slice Ao19 t468.length co19] 28 (0,0)) qB139 hb);have n5_:=qAm (blk_below (g:=gb484) (o:=.cells #[.int .i64 t479,.slice Ao29 t480.length co29] 28 (0,0)) qB140 hb);have n6_:=qAm (blk_below (g:=gb500) (o:=.cells #[.int .i64 0,.slice none 0 0] 28 (0,0)) qB141 hb);have n7_:=qAm (below_step qB20 hb);clear HO_473001 HO_485001 BK459 BK460 BK472 BK484 BK500 HB;have HO_473001:=n0_;have HO_485001:=n1_;have BK459:=n2_;have BK460:=n3_;have BK472:=n4_;have BK484:=n5_;have BK500:=n6_;have HB:=n7_;clear n0_ n1_ n2_ n3_ n4_ n5_ n6_ n7_
         (try clear hb)
         (try clear hb2)
         (try clear hk)
         (try clear hi)
         refine hK.out _ _ ⟨(blk_cell BK459.1 0).trans rfl,(blk_cell BK459.1 1).trans rfl,(blk_cell BK459.1 2).trans rfl,(blk_cell BK460.1 0).trans rfl,(blk_cell BK460.1 1).trans rfl,(blk_cell BK460.1 2).trans rfl⟩ (fun hHeld=>?_);clear hK K;refine norm_ (a':=?_) ?_ ?_;rotate_left
         ·show Act.put _ (some 53) _=_
          simp only [Act.put,qSa,qSb,qSc,i64_w,i32_w];rfl
         refine one_ (i:=4) (N:=some 54) #[true,true,true,true,true,false,false,false,true,false,false] rfl rfl (one_of HT_.1 (by kernel_rfl)) (by decide) (fun K hK=>?_);refine goes_ Try.func25 (by kernel_rfl) rfl #[.agg #[.int .i64 t489,.int .i64 t490,.int .i64 t491],.agg #[.int .i64 t492,.int .i64 t493,.int .i64 t494]] (by rfl) rfl rfl qB90 ?_;with_reducible refine(impl_OrthogonalSum.calls kj8 t489 t490 t491 t492 t493 t494 t495 t496 t499 _ A63.1).mono ?_
         rintro e w76 ⟨v497,rfl,ho0,hb⟩;refine⟨_,rfl,?_⟩;have n0_:=qAm (Kd.R_elder' qB146 (Kd.R_base ho0) hb);have n1_:=qAm (Kd.R_elder' qB147 (Kd.R_base ho0) hb);have n2_:=qAm (Kd.R_lower (Kd.R_new' (Kd.R_new' ho0 (Kd.R_lt qB146)) (Kd.R_lt qB147)) (below_size qB20));have n3_:=qAm (blk_below (g:=gb459) (o:=.cells #[.int .i64 a0_0,.int .i64 a0_1,.int .i64 a0_2] 36 (0,0)) qB137 hb);have n4_:=qAm (blk_below (g:=gb460) (o:=.cells #[.int .i64 a1_0,.int .i64 a1_1,.int .i64 a1_2] 36 (0,0)) qB138 hb);have n5_:=qAm (blk_below (g:=gb472) (o:=.cells #[.int .i64 t467,.slice Ao19 t468.length co19] 28 (0,0)) qB139 hb);have n6_:=qAm (blk_below (g:=gb484) (o:=.cells #[.int .i64 t479,.slice Ao29 t480.length co29] 28 (0,0)) qB140 hb);have n7_:=qAm (blk_below (g:=gb500) (o:=.cells #[.int .i64 0,.slice none 0 0] 28 (0,0)) qB141 hb);have n8_:=qAm (below_step qB20 hb);clear HO_473001 HO_485001 BK459 BK460 BK472 BK484 BK500 HB;have HO_473001:=n0_;have HO_485001:=n1_;have HO498:=n2_;have BK459:=n3_;have BK460:=n4_;have BK472:=n5_;have BK484:=n6_;have BK500:=n7_;have HB:=n8_;clear n0_ n1_ n2_ n3_ n4_ n5_ n6_ n7_ n8_
         (try clear hb)
         (try clear hb2)
         (try clear hk)
         (try clear hi)
         (try clear ho0)
         refine hK.out _ _ ⟨(blk_cell BK459.1 0).trans rfl,(blk_cell BK459.1 1).trans rfl,(blk_cell BK459.1 2).trans rfl,(blk_cell BK460.1 0).trans rfl,(blk_cell BK460.1 1).trans rfl,(blk_cell BK460.1 2).trans rfl⟩ (fun hHeld=>?_);clear hK K;refine norm_ (a':=?_) ?_ ?_;rotate_left
         ·show Act.put _ (some 54) _=_
          simp only [Act.put,qSa,qSb,qSc,i64_w,i32_w];rfl
         refine pure_ (i:=5) (N:=some 49) (v:=?_) (a':=?_) #[true,true,true,true,true,true,false,false,true,false,false] rfl rfl (any_of HT_.1 (by kernel_rfl)) (fun _ _ _ h=>h) (Or.inl ⟨by rfl,?_⟩) ?_ ?_;rotate_left
         ·intro w';go_simp;with_reducible rfl
         rotate_left
         ·simp only [Act.put,qSa,qSb,qSc,i64_w,i32_w];rfl
         refine pure_ (i:=6) (N:=some 55) (v:=?_) (a':=?_) #[true,true,true,true,true,true,true,false,true,false,false] rfl rfl (any_of HT_.1 (by kernel_rfl)) (fun _ _ _ h=>h) (Or.inl ⟨by rfl,?_⟩) ?_ ?_;rotate_left
         ·intro w';go_simp;with_reducible rfl
         rotate_left
         ·simp only [Act.put,qSa,qSb,qSc,i64_w,i32_w];rfl
         refine pure_ (i:=7) (N:=some 56) (v:=?_) (a':=?_) #[true,true,true,true,true,true,true,true,true,false,false] rfl rfl (any_of HT_.1 (by kernel_rfl)) (fun _ _ _ h=>h) (Or.inl ⟨by rfl,?_⟩) ?_ ?_;rotate_left
         ·intro w';go_simp;with_reducible rfl
         rotate_left
         ·simp only [Act.put,qSa,qSb,qSc,i64_w,i32_w];rfl
         exact norm_ qB175 (hCont (v497,gb500) _ ⟨hHeld,qB86,qB81,qB82,qB137,qB138,qB139,qB140,qB141,GW500.1,GE500.1,NB459_500.1,NB500_459.1,NB460_500.1,NB500_460.1,NB472_500.1,NB500_472.1,NB484_500.1,NB500_484.1,qB20⟩)
       ·skip;refine box_step ?hg (N:=11) ?hd (cs:=#[.int .i64 0,.slice none 0 0]) (t:=28) ?hr ?_;(case hd=>rfl);(case hg=>rfl);(case hr=>first|(go_simp;done)|(go_simp;rfl));intro gb500 hg w73 hbox hb;have n0_:=qAm (Kd.R_below qB146 hb);have n1_:=qAm (Kd.R_below qB147 hb);have n2_:=qAm (blk_below (g:=gb459) (o:=.cells #[.int .i64 a0_0,.int .i64 a0_1,.int .i64 a0_2] 36 (0,0)) qB137 hb);have n3_:=qAm (blk_below (g:=gb460) (o:=.cells #[.int .i64 a1_0,.int .i64 a1_1,.int .i64 a1_2] 36 (0,0)) qB138 hb);have n4_:=qAm (blk_below (g:=gb472) (o:=.cells #[.int .i64 t467,.slice Ao19 t468.length co19] 28 (0,0)) qB139 hb);have n5_:=qAm (blk_below (g:=gb484) (o:=.cells #[.int .i64 t479,.slice Ao29 t480.length co29] 28 (0,0)) qB140 hb);have n6_:=qAm (below_step qB25 hb);have n7_:=qAm (hbox);have n8_:=qAm ((by rw [hg];exact(below_size qB25):w.heap.size≤gb500));have n9_:=qAm ((by rw [hg];exact(below_size qB25):w.heap.size≤gb500));have n10_:=qAm ((by rw [hg];exact Nat.ne_of_lt (blk_lt (g:=gb459) (o:=.cells #[.int .i64 a0_0,.int .i64 a0_1,.int .i64 a0_2] 36 (0,0)) qB137):gb459≠gb500));have n11_:=qAm ((by rw [hg];exact Nat.ne_of_gt (blk_lt (g:=gb459) (o:=.cells #[.int .i64 a0_0,.int .i64 a0_1,.int .i64 a0_2] 36 (0,0)) qB137):gb500≠gb459));have n12_:=qAm ((by rw [hg];exact Nat.ne_of_lt (blk_lt (g:=gb460) (o:=.cells #[.int .i64 a1_0,.int .i64 a1_1,.int .i64 a1_2] 36 (0,0)) qB138):gb460≠gb500));have n13_:=qAm ((by rw [hg];exact Nat.ne_of_gt (blk_lt (g:=gb460) (o:=.cells #[.int .i64 a1_0,.int .i64 a1_1,.int .i64 a1_2] 36 (0,0)) qB138):gb500≠gb460));have n14_:=qAm ((by rw [hg];exact Nat.ne_of_lt (blk_lt (g:=gb472) (o:=.cells #[.int .i64 t467,.slice Ao19 t468.length co19] 28 (0,0)) qB139):gb472≠gb500));have n15_:=qAm ((by rw [hg];exact Nat.ne_of_gt (blk_lt (g:=gb472) (o:=.cells #[.int .i64 t467,.slice Ao19 t468.length co19] 28 (0,0)) qB139):gb500≠gb472));have n16_:=qAm ((by rw [hg];exact Nat.ne_of_lt (blk_lt (g:=gb484) (o:=.cells #[.int .i64 t479,.slice Ao29 t480.length co29] 28 (0,0)) qB140):gb484≠gb500));have n17_:=qAm ((by rw [hg];exact Nat.ne_of_gt (blk_lt (g:=gb484) (o:=.cells #[.int .i64 t479,.slice Ao29 t480.length co29] 28 (0,0)) qB140):gb500≠gb484));clear HO_473001 HO_485001 BK459 BK460 BK472 BK484 HB;have HO_473001:=n0_;have HO_485001:=n1_;have BK459:=n2_;have BK460:=n3_;have BK472:=n4_;have BK484:=n5_;have HB:=n6_;have BK500:=n7_;have GW500:=n8_;have GE500:=n9_;have NB459_500:=n10_;have NB500_459:=n11_;have NB460_500:=n12_;have NB500_460:=n13_;have NB472_500:=n14_;have NB500_472:=n15_;have NB484_500:=n16_;have NB500_484:=n17_;clear n0_ n1_ n2_ n3_ n4_ n5_ n6_ n7_ n8_ n9_ n10_ n11_ n12_ n13_ n14_ n15_ n16_ n17_ hb hbox hg;refine hK.out _ _ ⟨(blk_cell BK459.1 0).trans rfl,(blk_cell BK459.1 1).trans rfl,(blk_cell BK459.1 2).trans rfl,(blk_cell BK460.1 0).trans rfl,(blk_cell BK460.1 1).trans rfl,(blk_cell BK460.1 2).trans rfl⟩ (fun hHeld=>?_);clear hK K;refine norm_ (a':=?_) ?_ ?_;rotate_left
        ·show Act.put _ (some 11) _=_
         simp only [Act.put,qSa,qSb,qSc,i64_w,i32_w];rfl
        refine one_ (i:=1) (N:=some 51) #[true,true,true,false,false,false,false,false,true,false,false] rfl rfl (one_of HT_.1 (by kernel_rfl)) (by decide) (fun K hK=>?_);refine goes_ Try.func19 (by kernel_rfl) rfl #[.agg #[.int .i64 a0_0,.int .i64 a0_1,.int .i64 a0_2]] (by rfl) rfl rfl qB90 ?_;with_reducible refine(laws_toCharacter.calls a0_0 a0_1 a0_2 t489 t490 t491 _ A61.1).mono ?_
        rintro e w74 ⟨rfl,hb⟩;refine⟨_,rfl,?_⟩;have n0_:=qAm (Kd.R_below qB146 hb);have n1_:=qAm (Kd.R_below qB147 hb);have n2_:=qAm (blk_below (g:=gb459) (o:=.cells #[.int .i64 a0_0,.int .i64 a0_1,.int .i64 a0_2] 36 (0,0)) qB137 hb);have n3_:=qAm (blk_below (g:=gb460) (o:=.cells #[.int .i64 a1_0,.int .i64 a1_1,.int .i64 a1_2] 36 (0,0)) qB138 hb);have n4_:=qAm (blk_below (g:=gb472) (o:=.cells #[.int .i64 t467,.slice Ao19 t468.length co19] 28 (0,0)) qB139 hb);have n5_:=qAm (blk_below (g:=gb484) (o:=.cells #[.int .i64 t479,.slice Ao29 t480.length co29] 28 (0,0)) qB140 hb);have n6_:=qAm (blk_below (g:=gb500) (o:=.cells #[.int .i64 0,.slice none 0 0] 28 (0,0)) qB141 hb);have n7_:=qAm (below_step qB20 hb);clear HO_473001 HO_485001 BK459 BK460 BK472 BK484 BK500 HB;have HO_473001:=n0_;have HO_485001:=n1_;have BK459:=n2_;have BK460:=n3_;have BK472:=n4_;have BK484:=n5_;have BK500:=n6_;have HB:=n7_;clear n0_ n1_ n2_ n3_ n4_ n5_ n6_ n7_
        (try clear hb)
        (try clear hb2)
        (try clear hk)
        (try clear hi)
        refine hK.out _ _ ⟨(blk_cell BK459.1 0).trans rfl,(blk_cell BK459.1 1).trans rfl,(blk_cell BK459.1 2).trans rfl,(blk_cell BK460.1 0).trans rfl,(blk_cell BK460.1 1).trans rfl,(blk_cell BK460.1 2).trans rfl⟩ (fun hHeld=>?_);clear hK K;refine norm_ (a':=?_) ?_ ?_;rotate_left
        ·show Act.put _ (some 51) _=_
         simp only [Act.put,qSa,qSb,qSc,i64_w,i32_w];rfl
        refine one_ (i:=3) (N:=some 53) #[true,true,true,true,false,false,false,false,true,false,false] rfl rfl (one_of HT_.1 (by kernel_rfl)) (by decide) (fun K hK=>?_);refine goes_ Try.func19 (by kernel_rfl) rfl #[.agg #[.int .i64 a1_0,.int .i64 a1_1,.int .i64 a1_2]] (by rfl) rfl rfl qB90 ?_;with_reducible refine(laws_toCharacter.calls a1_0 a1_1 a1_2 t492 t493 t494 _ A62.1).mono ?_
        rintro e w75 ⟨rfl,hb⟩;refine⟨_,rfl,?_⟩;have n0_:=qAm (Kd.R_below qB146 hb);have n1_:=qAm (Kd.R_below qB147 hb);have n2_:=qAm (blk_below (g:=gb459) (o:=.cells #[.int .i64 a0_0,.int .i64 a0_1,.int .i64 a0_2] 36 (0,0)) qB137 hb);have n3_:=qAm (blk_below (g:=gb460) (o:=.cells #[.int .i64 a1_0,.int .i64 a1_1,.int .i64 a1_2] 36 (0,0)) qB138 hb);have n4_:=qAm (blk_below (g:=gb472) (o:=.cells #[.int .i64 t467,.slice Ao19 t468.length co19] 28 (0,0)) qB139 hb);have n5_:=qAm (blk_below (g:=gb484) (o:=.cells #[.int .i64 t479,.slice Ao29 t480.length co29] 28 (0,0)) qB140 hb);have n6_:=qAm (blk_below (g:=gb500) (o:=.cells #[.int .i64 0,.slice none 0 0] 28 (0,0)) qB141 hb);have n7_:=qAm (below_step qB20 hb);clear HO_473001 HO_485001 BK459 BK460 BK472 BK484 BK500 HB;have HO_473001:=n0_;have HO_485001:=n1_;have BK459:=n2_;have BK460:=n3_;have BK472:=n4_;have BK484:=n5_;have BK500:=n6_;have HB:=n7_;clear n0_ n1_ n2_ n3_ n4_ n5_ n6_ n7_
        (try clear hb)
        (try clear hb2)
        (try clear hk)
        (try clear hi)
        refine hK.out _ _ ⟨(blk_cell BK459.1 0).trans rfl,(blk_cell BK459.1 1).trans rfl,(blk_cell BK459.1 2).trans rfl,(blk_cell BK460.1 0).trans rfl,(blk_cell BK460.1 1).trans rfl,(blk_cell BK460.1 2).trans rfl⟩ (fun hHeld=>?_);clear hK K;refine norm_ (a':=?_) ?_ ?_;rotate_left
        ·show Act.put _ (some 53) _=_
         simp only [Act.put,qSa,qSb,qSc,i64_w,i32_w];rfl
        refine one_ (i:=4) (N:=some 54) #[true,true,true,true,true,false,false,false,true,false,false] rfl rfl (one_of HT_.1 (by kernel_rfl)) (by decide) (fun K hK=>?_);refine goes_ Try.func25 (by kernel_rfl) rfl #[.agg #[.int .i64 t489,.int .i64 t490,.int .i64 t491],.agg #[.int .i64 t492,.int .i64 t493,.int .i64 t494]] (by rfl) rfl rfl qB90 ?_;with_reducible refine(impl_OrthogonalSum.calls kj8 t489 t490 t491 t492 t493 t494 t495 t496 t499 _ A63.1).mono ?_
        rintro e w76 ⟨v497,rfl,ho0,hb⟩;refine⟨_,rfl,?_⟩;have n0_:=qAm (Kd.R_elder' qB146 (Kd.R_base ho0) hb);have n1_:=qAm (Kd.R_elder' qB147 (Kd.R_base ho0) hb);have n2_:=qAm (Kd.R_lower (Kd.R_new' (Kd.R_new' ho0 (Kd.R_lt qB146)) (Kd.R_lt qB147)) (below_size qB20));have n3_:=qAm (blk_below (g:=gb459) (o:=.cells #[.int .i64 a0_0,.int .i64 a0_1,.int .i64 a0_2] 36 (0,0)) qB137 hb);have n4_:=qAm (blk_below (g:=gb460) (o:=.cells #[.int .i64 a1_0,.int .i64 a1_1,.int .i64 a1_2] 36 (0,0)) qB138 hb);have n5_:=qAm (blk_below (g:=gb472) (o:=.cells #[.int .i64 t467,.slice Ao19 t468.length co19] 28 (0,0)) qB139 hb);have n6_:=qAm (blk_below (g:=gb484) (o:=.cells #[.int .i64 t479,.slice Ao29 t480.length co29] 28 (0,0)) qB140 hb);have n7_:=qAm (blk_below (g:=gb500) (o:=.cells #[.int .i64 0,.slice none 0 0] 28 (0,0)) qB141 hb);have n8_:=qAm (below_step qB20 hb);clear HO_473001 HO_485001 BK459 BK460 BK472 BK484 BK500 HB;have HO_473001:=n0_;have HO_485001:=n1_;have HO498:=n2_;have BK459:=n3_;have BK460:=n4_;have BK472:=n5_;have BK484:=n6_;have BK500:=n7_;have HB:=n8_;clear n0_ n1_ n2_ n3_ n4_ n5_ n6_ n7_ n8_
        (try clear hb)
        (try clear hb2)
        (try clear hk)
        (try clear hi)
        (try clear ho0)
        refine hK.out _ _ ⟨(blk_cell BK459.1 0).trans rfl,(blk_cell BK459.1 1).trans rfl,(blk_cell BK459.1 2).trans rfl,(blk_cell BK460.1 0).trans rfl,(blk_cell BK460.1 1).trans rfl,(blk_cell BK460.1 2).trans rfl⟩ (fun hHeld=>?_);clear hK K;refine norm_ (a':=?_) ?_ ?_;rotate_left
        ·show Act.put _ (some 54) _=_
         simp only [Act.put,qSa,qSb,qSc,i64_w,i32_w];rfl
        refine pure_ (i:=5) (N:=some 49) (v:=?_) (a':=?_) #[true,true,true,true,true,true,false,false,true,false,false] rfl rfl (any_of HT_.1 (by kernel_rfl)) (fun _ _ _ h=>h) (Or.inl ⟨by rfl,?_⟩) ?_ ?_;rotate_left
        ·intro w';go_simp;with_reducible rfl
        rotate_left
        ·simp only [Act.put,qSa,qSb,qSc,i64_w,i32_w];rfl
        refine pure_ (i:=6) (N:=some 55) (v:=?_) (a':=?_) #[true,true,true,true,true,true,true,false,true,false,false] rfl rfl (any_of HT_.1 (by kernel_rfl)) (fun _ _ _ h=>h) (Or.inl ⟨by rfl,?_⟩) ?_ ?_;rotate_left
        ·intro w';go_simp;with_reducible rfl
        rotate_left
        ·simp only [Act.put,qSa,qSb,qSc,i64_w,i32_w];rfl
        refine pure_ (i:=7) (N:=some 56) (v:=?_) (a':=?_) #[true,true,true,true,true,true,true,true,true,false,false] rfl rfl (any_of HT_.1 (by kernel_rfl)) (fun _ _ _ h=>h) (Or.inl ⟨by rfl,?_⟩) ?_ ?_;rotate_left
        ·intro w';go_simp;with_reducible rfl
        rotate_left
        ·simp only [Act.put,qSa,qSb,qSc,i64_w,i32_w];rfl
        exact norm_ qB175 (hCont (v497,gb500) _ ⟨hHeld,qB86,qB81,qB82,qB137,qB138,qB139,qB140,qB141,GW500.1,GE500.1,NB459_500.1,NB500_459.1,NB460_500.1,NB500_460.1,NB472_500.1,NB500_472.1,NB484_500.1,NB500_484.1,qB20⟩)
      rintro⟨v497,gb500⟩ w77 ⟨hS_,h0_,h1_,h2_,h3_,h4_,h5_,h6_,h7_,h8_,h9_,h10_,h11_,h12_,h13_,h14_,h15_,h16_,h17_,h18_⟩;have n0_:Aside0 (Kd.R (Kd.int .i64) 2 w77 w.heap.size (fun k_=>some k_≠(.slice Ao19 t468.length co19:Value).ownBlock∧some k_≠(.slice Ao29 t480.length co29:Value).ownBlock) v497 t496):=⟨h0_⟩
      have n1_:Aside0 (Kd.R (Kd.int .i64) 2 w77 w.heap.size (fun k_=>some k_≠(v497:Value).ownBlock∧some k_≠(.slice Ao29 t480.length co29:Value).ownBlock) (.slice Ao19 t468.length co19) t468):=⟨h1_⟩
      have n2_:Aside0 (Kd.R (Kd.int .i64) 2 w77 w.heap.size (fun k_=>some k_≠(v497:Value).ownBlock∧some k_≠(.slice Ao19 t468.length co19:Value).ownBlock) (.slice Ao29 t480.length co29) t487):=⟨h2_⟩
      have n3_:Aside0 (w77.heap[gb459]? =some (.cells #[.int .i64 a0_0,.int .i64 a0_1,.int .i64 a0_2] 36 (0,0))):=⟨h3_⟩
      have n4_:Aside0 (w77.heap[gb460]? =some (.cells #[.int .i64 a1_0,.int .i64 a1_1,.int .i64 a1_2] 36 (0,0))):=⟨h4_⟩
      have n5_:Aside0 (w77.heap[gb472]? =some (.cells #[.int .i64 t467,.slice Ao19 t468.length co19] 28 (0,0))):=⟨h5_⟩
      have n6_:Aside0 (w77.heap[gb484]? =some (.cells #[.int .i64 t479,.slice Ao29 t480.length co29] 28 (0,0))):=⟨h6_⟩
      have n7_:Aside0 (w77.heap[gb500]? =some (.cells #[.int .i64 0,.slice none 0 0] 28 (0,0))):=⟨h7_⟩
      have n8_:Aside0 (w.heap.size≤gb500):=⟨h8_⟩
      have n9_:Aside0 (w.heap.size≤gb500):=⟨h9_⟩
      have n10_:Aside0 (gb459≠gb500):=⟨h10_⟩
      have n11_:Aside0 (gb500≠gb459):=⟨h11_⟩
      have n12_:Aside0 (gb460≠gb500):=⟨h12_⟩
      have n13_:Aside0 (gb500≠gb460):=⟨h13_⟩
      have n14_:Aside0 (gb472≠gb500):=⟨h14_⟩
      have n15_:Aside0 (gb500≠gb472):=⟨h15_⟩
      have n16_:Aside0 (gb484≠gb500):=⟨h16_⟩
      have n17_:Aside0 (gb500≠gb484):=⟨h17_⟩
      have n18_:Aside0 (Below w.heap.size w w77):=⟨h18_⟩
      clear HO_473001 HO_485001 BK459 BK460 BK472 BK484 HB h0_ h1_ h2_ h3_ h4_ h5_ h6_ h7_ h8_ h9_ h10_ h11_ h12_ h13_ h14_ h15_ h16_ h17_ h18_;have HO498:=n0_;have HO_473001:=n1_;have HO_485001:=n2_;have BK459:=n3_;have BK460:=n4_;have BK472:=n5_;have BK484:=n6_;have BK500:=n7_;have GW500:=n8_;have GE500:=n9_;have NB459_500:=n10_;have NB500_459:=n11_;have NB460_500:=n12_;have NB500_460:=n13_;have NB472_500:=n14_;have NB500_472:=n15_;have NB484_500:=n16_;have NB500_484:=n17_;have HB:=n18_;clear n0_ n1_ n2_ n3_ n4_ n5_ n6_ n7_ n8_ n9_ n10_ n11_ n12_ n13_ n14_ n15_ n16_ n17_ n18_;have hHeld:w77.cell? ⟨gb459,0,none⟩=some (.int .i64 a0_0)∧w77.cell? ⟨gb459,1,none⟩=some (.int .i64 a0_1)∧w77.cell? ⟨gb459,2,none⟩=some (.int .i64 a0_2)∧w77.cell? ⟨gb460,0,none⟩=some (.int .i64 a1_0)∧w77.cell? ⟨gb460,1,none⟩=some (.int .i64 a1_1)∧w77.cell? ⟨gb460,2,none⟩=some (.int .i64 a1_2):=hS_;obtain⟨Ao79,co79,eo79⟩:=Kd.R_slice HO498.1
      (first|subst eo79|(injection eo79 with f1_ f2_ f3_;have f4_:=f1_.symm;have f5_:=f3_.symm;clear f1_ f2_ f3_;subst f4_;subst f5_))
      refine norm_ (a':=?_) ?_ ?_;rotate_left
      ·simp only [putAll,Act.put,qSa,qSb,qSc];rfl
      refine one_ (i:=9) (N:=none) #[true,true,true,true,true,true,true,true,true,true,false] rfl rfl (one_of HT_.1 (by kernel_rfl)) (by decide) (fun K hK=>?_);have hs78:w77.cell? ⟨gb500,0,none⟩=some (.int .i64 0):=(blk_cell BK500.1 0).trans rfl;have hfs78:=blk_frozen BK500.1 0;have hns78_0:=NB459_500.1;have hns78_1:=NB460_500.1;have hns78_2:=NB472_500.1;have hns78_3:=NB484_500.1;have hms78_0:=NB500_459.1;have hms78_1:=NB500_460.1;have hms78_2:=NB500_472.1;have hms78_3:=NB500_484.1;have hs80:w77.cell? ⟨gb500,1,none⟩=some (.slice none 0 0):=(blk_cell BK500.1 1).trans rfl;have hfs80:=blk_frozen BK500.1 1;have hns80_0:=NB459_500.1;have hns80_1:=NB460_500.1;have hns80_2:=NB472_500.1;have hns80_3:=NB484_500.1;have hms80_0:=NB500_459.1;have hms80_1:=NB500_460.1;have hms80_2:=NB500_472.1;have hms80_3:=NB500_484.1;refine skip_ (w1:=?_) (by rfl) rfl ?_ ?_;rotate_left
      ·go_simp;rfl
      refine hK.out _ _ ⟨((cell_far (p:=⟨gb500,_,none⟩) NB459_500.1 _).trans (((cell_far (p:=⟨gb500,_,none⟩) NB459_500.1 _).trans (hHeld.1)))),((cell_far (p:=⟨gb500,_,none⟩) NB459_500.1 _).trans (((cell_far (p:=⟨gb500,_,none⟩) NB459_500.1 _).trans (hHeld.2.1)))),((cell_far (p:=⟨gb500,_,none⟩) NB459_500.1 _).trans (((cell_far (p:=⟨gb500,_,none⟩) NB459_500.1 _).trans (hHeld.2.2.1)))),((cell_far (p:=⟨gb500,_,none⟩) NB460_500.1 _).trans (((cell_far (p:=⟨gb500,_,none⟩) NB460_500.1 _).trans (hHeld.2.2.2.1)))),((cell_far (p:=⟨gb500,_,none⟩) NB460_500.1 _).trans (((cell_far (p:=⟨gb500,_,none⟩) NB460_500.1 _).trans (hHeld.2.2.2.2.1)))),((cell_far (p:=⟨gb500,_,none⟩) NB460_500.1 _).trans (((cell_far (p:=⟨gb500,_,none⟩) NB460_500.1 _).trans (hHeld.2.2.2.2.2))))⟩ (fun hHeld=>?_);clear hK K;refine pure_ (i:=10) (N:=some 12) (v:=?_) (a':=?_) #[true,true,true,true,true,true,true,true,true,true,true] rfl rfl (any_of HT_.1 (by kernel_rfl)) (fun _ _ _ h=>h) (Or.inl ⟨by rfl,?_⟩) ?_ ?_;rotate_left
      ·intro w';go_simp;with_reducible rfl
      rotate_left
      ·simp only [Act.put,qSa,qSb,qSc,i64_w,i32_w];rfl
      refine done_ (done_of HT_.1 (by kernel_rfl)) ?_;go_upto_region 14 with (fail)
      go_cut [65] (fun v65 wc=>∃(kq:Nat) (x65_63:Bool),v65=.bool x65_63∧Aside0 (laws_FnExactOrthogonalSum.j1 kq t486 x65_63 t479 t487=some true)∧Aside0 (kq≤kj8)∧Aside0 (Kd.R (Kd.int .i64) 2 wc w.heap.size (fun k_=>some k_≠((.slice Ao29 t480.length co29):Value).ownBlock∧some k_≠((.slice Ao79 t496.length co79):Value).ownBlock) (.slice Ao19 t468.length co19) t468)∧Aside0 (Kd.R (Kd.int .i64) 2 wc w.heap.size (fun k_=>some k_≠((.slice Ao19 t468.length co19):Value).ownBlock∧some k_≠((.slice Ao79 t496.length co79):Value).ownBlock) (.slice Ao29 t480.length co29) t487)∧Aside0 (Kd.R (Kd.int .i64) 2 wc w.heap.size (fun k_=>some k_≠((.slice Ao19 t468.length co19):Value).ownBlock∧some k_≠((.slice Ao29 t480.length co29):Value).ownBlock) (.slice Ao79 t496.length co79) t496)∧Aside0 (wc.heap[gb459]? =some (.cells #[.int .i64 a0_0,.int .i64 a0_1,.int .i64 a0_2] 36 (0,0)))∧Aside0 (wc.heap[gb460]? =some (.cells #[.int .i64 a1_0,.int .i64 a1_1,.int .i64 a1_2] 36 (0,0)))∧Aside0 (wc.heap[gb472]? =some (.cells #[.int .i64 t467,(.slice Ao19 t468.length co19)] 28 (0,0)))∧Aside0 (wc.heap[gb484]? =some (.cells #[.int .i64 t479,(.slice Ao29 t480.length co29)] 28 (0,0)))∧Aside0 (wc.heap[gb500]? =some (.cells #[.int .i64 t495,(.slice Ao79 t496.length co79)] 28 (0,0)))∧Aside0 (Below w.heap.size w wc))
      case first=>
       have H:=HC64.1;clear HC64;replace H:=qOb H;obtain⟨t501,A810,H⟩:=H;replace H:(if t501=true then (laws_FnExactOrthogonalSum.j1 kj8 t486 (t499 !=t471) t479 t487) else (laws_FnExactOrthogonalSum.j1 kj8 t486 true t479 t487))=some true:=H;have A81:=qAm A810;clear A810
       by_cases c82:t501=true
       ·subst c82;have H1:(laws_FnExactOrthogonalSum.j1 kj8 t486 (t499 !=t471) t479 t487)=some true:=by rw [if_pos rfl] at H;exact H
        clear H;have H:=H1;clear H1;have H':=qAm H;clear H;have hnb83:=NB500_459.1;have hnc83:=NB459_500.1;have hnb84:=NB500_460.1;have hnc84:=NB460_500.1;have hnb85:=NB500_472.1;have hnc85:=NB472_500.1;have hnb86:=NB500_484.1;have hnc86:=NB484_500.1;have hcz87_0:w77.cell? ⟨gb500,0,none⟩=some (.int .i64 0):=(blk_cell BK500.1 0).trans rfl;have hcz87_1:w77.cell? ⟨gb500,1,none⟩=some (.slice none 0 0):=(blk_cell BK500.1 1).trans rfl;have hfz87_0:=blk_frozen BK500.1 0;have hfz87_1:=blk_frozen BK500.1 1;have hnb88:=NB472_459.1;have hnc88:=NB459_472.1;have hnb89:=NB472_460.1;have hnc89:=NB460_472.1;have hnb90:=NB472_484.1;have hnc90:=NB484_472.1;have hcz91_0:w77.cell? ⟨gb472,0,none⟩=some (.int .i64 t467):=(blk_cell BK472.1 0).trans rfl;have hcz91_1:w77.cell? ⟨gb472,1,none⟩=some (.slice Ao19 t468.length co19):=(blk_cell BK472.1 1).trans rfl;have hfz91_0:=blk_frozen BK472.1 0;have hfz91_1:=blk_frozen BK472.1 1;go_wp2_with (first|((with_reducible refine gate_callee (f:=14) rfl ?_);refine goesL_ (some 59) rfl rfl Try.func14 (by kernel_rfl) rfl #[.agg #[.int .i64 t495,.slice Ao79 t496.length co79],.agg #[.int .i64 t467,.slice Ao19 t468.length co19]] rfl qB90 ?_;(with_reducible refine(laws_eqCyclo.calls kj8 t495 _ _ t496 t467 _ _ t468 true _ ?side1 ?side2 ?side3 ?side4 A81.1).mono ?_);(case side1=>refine(Kd.R_reads' (e:=2) (base:=w.heap.size) (ok:=fun k_=>(some k_≠(.slice Ao19 t468.length co19:Value).ownBlock∧some k_≠(.slice Ao29 t480.length co29:Value).ownBlock)) (n:=t496.length) (c:=co79) ?_).2.2;exact qB15);(case side2=>exact(Kd.R_reads' HO498.1).2.1);(case side3=>refine(Kd.R_reads' (e:=2) (base:=w.heap.size) (ok:=fun k_=>(some k_≠(.slice Ao79 t496.length co79:Value).ownBlock∧some k_≠(.slice Ao29 t480.length co29:Value).ownBlock)) (n:=t468.length) (c:=co19) ?_).2.2;exact qB8);(case side4=>exact(Kd.R_reads' HO_473001.1).2.1);rintro e w92 ⟨rfl,hb⟩;refine⟨_,rfl,?_⟩;have n0_:=qAm (Kd.R_below qB8 hb);have n1_:=qAm (Kd.R_below (by (with_reducible repeat(first|apply Kd.R_alloc|apply Kd.R_drewN|apply Kd.R_drew));exact(Kd.R_mono (Kd.R_far (p:=⟨gb500,1,none⟩) (Kd.R_far (p:=⟨gb500,0,none⟩) (Kd.R_types HO_485001.1 BK500.1 (by decide)) (fun _ hk=>hk.2) (.int .i64 t495)) (fun _ hk=>hk.2) (.slice Ao79 t496.length co79)) (fun _ h_=>h_.1))) hb);have n2_:=qAm (Kd.R_below qB15 hb);have n3_:=qAm (blk_below (g:=gb459) (o:=.cells #[.int .i64 a0_0,.int .i64 a0_1,.int .i64 a0_2] 36 (0,0)) (by (with_reducible repeat(first|refine blk_drewN ?_ _|refine blk_drew ?_|refine blk_alloc ?_ _));refine blk_far ?_ NB459_500.1 _;(with_reducible repeat(first|refine blk_drewN ?_ _|refine blk_drew ?_|refine blk_alloc ?_ _));refine blk_far ?_ NB459_500.1 _;(with_reducible repeat(first|refine blk_drewN ?_ _|refine blk_drew ?_|refine blk_alloc ?_ _));exact BK459.1) hb);have n4_:=qAm (blk_below (g:=gb460) (o:=.cells #[.int .i64 a1_0,.int .i64 a1_1,.int .i64 a1_2] 36 (0,0)) (by (with_reducible repeat(first|refine blk_drewN ?_ _|refine blk_drew ?_|refine blk_alloc ?_ _));refine blk_far ?_ NB460_500.1 _;(with_reducible repeat(first|refine blk_drewN ?_ _|refine blk_drew ?_|refine blk_alloc ?_ _));refine blk_far ?_ NB460_500.1 _;(with_reducible repeat(first|refine blk_drewN ?_ _|refine blk_drew ?_|refine blk_alloc ?_ _));exact BK460.1) hb);have n5_:=qAm (blk_below (g:=gb472) (o:=.cells #[.int .i64 t467,.slice Ao19 t468.length co19] 28 (0,0)) (by (with_reducible repeat(first|refine blk_drewN ?_ _|refine blk_drew ?_|refine blk_alloc ?_ _));refine blk_far ?_ NB472_500.1 _;(with_reducible repeat(first|refine blk_drewN ?_ _|refine blk_drew ?_|refine blk_alloc ?_ _));refine blk_far ?_ NB472_500.1 _;(with_reducible repeat(first|refine blk_drewN ?_ _|refine blk_drew ?_|refine blk_alloc ?_ _));exact BK472.1) hb);have n6_:=qAm (blk_below (g:=gb484) (o:=.cells #[.int .i64 t479,.slice Ao29 t480.length co29] 28 (0,0)) (by (with_reducible repeat(first|refine blk_drewN ?_ _|refine blk_drew ?_|refine blk_alloc ?_ _));refine blk_far ?_ NB484_500.1 _;(with_reducible repeat(first|refine blk_drewN ?_ _|refine blk_drew ?_|refine blk_alloc ?_ _));refine blk_far ?_ NB484_500.1 _;(with_reducible repeat(first|refine blk_drewN ?_ _|refine blk_drew ?_|refine blk_alloc ?_ _));exact BK484.1) hb);have n7_:=qAm (blk_below (g:=gb500) (o:=.cells #[.int .i64 t495,.slice Ao79 t496.length co79] 28 (0,0)) (by (with_reducible repeat(first|refine blk_drewN ?_ _|refine blk_drew ?_|refine blk_alloc ?_ _));refine blk_put (cs:=#[.int .i64 t495,.slice none 0 0]) ?_ 1 _ rfl;(with_reducible repeat(first|refine blk_drewN ?_ _|refine blk_drew ?_|refine blk_alloc ?_ _));refine blk_put (cs:=#[.int .i64 0,.slice none 0 0]) ?_ 0 _ rfl;(with_reducible repeat(first|refine blk_drewN ?_ _|refine blk_drew ?_|refine blk_alloc ?_ _));exact BK500.1) hb);have n8_:=qAm (below_step qB20 hb);clear HO_473001;clear HO_485001;clear HO498;clear BK459;clear BK460;clear BK472;clear BK484;clear BK500;clear HB;have HO_473001:=n0_;have HO_485001:=n1_;have HO498:=n2_;have BK459:=n3_;have BK460:=n4_;have BK472:=n5_;have BK484:=n6_;have BK500:=n7_;have HB:=n8_;clear n0_ n1_ n2_ n3_ n4_ n5_ n6_ n7_ n8_;(try clear hb);(try clear hb2);(try clear hk);(try clear hi)));go_meet
        case rel=>exact⟨_,((t499 !=t471)),qB178,H',⟨by have:=HJ8.1;first|omega|exact Nat.le_refl _⟩,⟨by (with_reducible repeat(first|apply Kd.R_alloc|apply Kd.R_drewN|apply Kd.R_drew));exact Kd.R_mono HO_473001.1 (fun _ hk=>⟨hk.2,hk.1⟩)⟩,⟨by (with_reducible repeat(first|apply Kd.R_alloc|apply Kd.R_drewN|apply Kd.R_drew));exact Kd.R_mono HO_485001.1 (fun _ hk=>⟨hk.2,hk.1⟩)⟩,⟨by (with_reducible repeat(first|apply Kd.R_alloc|apply Kd.R_drewN|apply Kd.R_drew));exact HO498.1⟩,⟨by (with_reducible repeat(first|refine blk_drewN ?_ _|refine blk_drew ?_|refine blk_alloc ?_ _));exact BK459.1⟩,⟨by (with_reducible repeat(first|refine blk_drewN ?_ _|refine blk_drew ?_|refine blk_alloc ?_ _));exact BK460.1⟩,⟨by (with_reducible repeat(first|refine blk_drewN ?_ _|refine blk_drew ?_|refine blk_alloc ?_ _));exact BK472.1⟩,⟨by (with_reducible repeat(first|refine blk_drewN ?_ _|refine blk_drew ?_|refine blk_alloc ?_ _));exact BK484.1⟩,⟨by (with_reducible repeat(first|refine blk_drewN ?_ _|refine blk_drew ?_|refine blk_alloc ?_ _));exact BK500.1⟩,⟨by repeat(first|(with_reducible first|exact HB.1|apply below_alloc|apply pw_below_drewN|apply below_drew1|refine below_set ?_ GE459.1|refine below_set ?_ GE460.1|refine below_set ?_ GE472.1|refine below_set ?_ GE484.1|refine below_set ?_ GE500.1)|exact HB.1)⟩⟩
       ·replace c82:=Bool.eq_false_iff.mpr c82;subst c82;have H1:(laws_FnExactOrthogonalSum.j1 kj8 t486 true t479 t487)=some true:=by rw [if_neg (show ¬(false=true) by decide)] at H;exact H
        exact(laws_FnExactOrthogonalSum.j1_no _ _ _ _ H1).elim
      case rest=>
       clear HC64;try clear c1
       try clear c2
       try clear p2
       try clear c8
       try clear c9
       try clear c10
       try clear c14
       try clear c19
       try clear c25
       try clear c82
       try clear c83
       try clear c84
       try clear c85
       try clear c86
       try clear c88
       try clear c89
       try clear c90
       try clear c93
       try clear c94
       try clear c95
       try clear c96
       try clear c98
       try clear c99
       try clear c100
       try clear hcz101_0
       try clear hcz101_1
       try clear hcz87_0
       try clear hcz87_1
       try clear hcz91_0
       try clear hcz91_1
       try clear hcz97_0
       try clear hcz97_1
       try clear hfz101_0
       try clear hfz101_1
       try clear hfz87_0
       try clear hfz87_1
       try clear hfz91_0
       try clear hfz91_1
       try clear hfz97_0
       try clear hfz97_1
       obtain⟨kq,x65_63,rfl,HA,HJ63,HO_473001,HO_485001,HO_501001,BK459,BK460,BK472,BK484,BK500,HB⟩:=hcut;have hl485001_63:=(Kd.R_reads' HO_485001.1).1;rw [hl485001_63] at HO_485001
       (try simp only [hl485001_63])
       (try simp only [hl485001_63] at BK459)
       (try simp only [hl485001_63] at BK460)
       (try simp only [hl485001_63] at BK472)
       (try simp only [hl485001_63] at BK484)
       (try simp only [hl485001_63] at BK500)
       (try simp only [hl485001_63] at HO_473001)
       (try simp only [hl485001_63] at HO_501001)
       cases kq with
       |zero=>exact absurd HA.1 (by simp [laws_FnExactOrthogonalSum.j1])
       |succ kj63=>
        have H:=HA.1;clear HA;simp only [laws_FnExactOrthogonalSum.j1] at H
        by_cases c103:x65_63=true
        ·subst c103;have H1:(some false)=some true:=by rw [if_pos rfl] at H;exact H
         cases H1
        ·replace c103:=Bool.eq_false_iff.mpr c103;subst c103;have H1:((laws_heldCyclo.f kj63 t479 t487 1).bind fun t502=>(if t502<0 then (some false) else (if t502=t486 then (some true) else (some false))))=some true:=by rw [if_neg (show ¬(false=true) by decide)] at H;exact H
         clear H;have H:=H1;clear H1;replace H:=qOb H;obtain⟨t502,A1040,H⟩:=H;replace H:(if t502<0 then (some false) else (if t502=t486 then (some true) else (some false)))=some true:=H;have A104:=qAm A1040;clear A1040
         by_cases c105:t502<0
         ·rw [if_pos c105] at H;cases H
         ·rw [if_neg c105] at H;have c105b0:decide (t502<0)=false:=decide_eq_false c105;clear c105
          by_cases c112:t502=t486
          ·rw [if_pos c112] at H;have c112b0:(t502==t486)=true:=beq_iff_eq.mpr c112;have c112b1:(t502 !=t486)=false:=bne_eq_false_iff_eq.mpr c112;clear c112 H;have hnb113:=NB484_459.1;have hnc113:=NB459_484.1;have hnb114:=NB484_460.1;have hnc114:=NB460_484.1;have hnb115:=NB484_472.1;have hnc115:=NB472_484.1;have hnb116:=NB484_500.1;have hnc116:=NB500_484.1;have hcz117_0:wc.cell? ⟨gb484,0,none⟩=some (.int .i64 t479):=(blk_cell BK484.1 0).trans rfl;have hcz117_1:wc.cell? ⟨gb484,1,none⟩=some (.slice Ao29 t487.length co29):=(blk_cell BK484.1 1).trans rfl;have hfz117_0:=blk_frozen BK484.1 0;have hfz117_1:=blk_frozen BK484.1 1;go_wp2_with (first|((with_reducible refine gate_callee (f:=26) rfl ?_);refine goesL_ (some 68) rfl rfl Try.func26 (by kernel_rfl) rfl #[.agg #[.int .i64 t479,.slice Ao29 t487.length co29],.int .i64 1] rfl qB90 ?_;(with_reducible refine(laws_heldCyclo.calls kj63 t479 _ _ t487 1 t502 _ ?side1 ?side2 A104.1).mono ?_);(case side1=>repeat(first|exact(Kd.R_reads' HO_485001.1).2.2|(with_reducible refine Kd.C_alloc ?_ _)|(with_reducible refine Kd.C_drewN ?_ _)|(with_reducible refine Kd.C_drew ?_)));(case side2=>exact(Kd.R_reads' HO_485001.1).2.1);rintro e w118 ⟨rfl,hb⟩;refine⟨_,rfl,?_⟩;have n0_:=qAm (Kd.R_below qB146 hb);have n1_:=qAm (Kd.R_below qB147 hb);have n2_:=qAm (Kd.R_below (by (with_reducible repeat(first|apply Kd.R_alloc|apply Kd.R_drewN|apply Kd.R_drew));exact HO_501001.1) hb);have n3_:=qAm (blk_below (g:=gb459) (o:=.cells #[.int .i64 a0_0,.int .i64 a0_1,.int .i64 a0_2] 36 (0,0)) qB137 hb);have n4_:=qAm (blk_below (g:=gb460) (o:=.cells #[.int .i64 a1_0,.int .i64 a1_1,.int .i64 a1_2] 36 (0,0)) qB138 hb);have n5_:=qAm (blk_below (g:=gb472) (o:=.cells #[.int .i64 t467,.slice Ao19 t468.length co19] 28 (0,0)) qB139 hb);have n6_:=qAm (blk_below (g:=gb484) (o:=.cells #[.int .i64 t479,.slice Ao29 t487.length co29] 28 (0,0)) qB140 hb);have n7_:=qAm (blk_below (g:=gb500) (o:=.cells #[.int .i64 t495,.slice Ao79 t496.length co79] 28 (0,0)) qB141 hb);have n8_:=qAm (below_step qB20 hb);clear HO_473001;clear HO_485001;clear HO_501001;clear BK459;clear BK460;clear BK472;clear BK484;clear BK500;clear HB;have HO_473001:=n0_;have HO_485001:=n1_;have HO_501001:=n2_;have BK459:=n3_;have BK460:=n4_;have BK472:=n5_;have BK484:=n6_;have BK500:=n7_;have HB:=n8_;clear n0_ n1_ n2_ n3_ n4_ n5_ n6_ n7_ n8_;(try clear hb);(try clear hb2);(try clear hk);(try clear hi)));go_ret;exact⟨by first|rfl|(simp [errW_none,errW_some] <;> rfl)|(simp [*,errW_none,errW_some] <;> rfl),by repeat(first|(with_reducible first|exact HB.1|apply below_alloc|apply pw_below_drewN|apply below_drew1|refine below_set ?_ GE459.1|refine below_set ?_ GE460.1|refine below_set ?_ GE472.1|refine below_set ?_ GE484.1|refine below_set ?_ GE500.1)|exact HB.1)⟩
          ·rw [if_neg c112] at H;cases H
     ·rw [if_neg c60] at H;cases H

/-- THE ONE PURE STATEMENT of laws_FnExactOrthogonalSum. -/
def laws_FnExactOrthogonalSum.Pure:Prop:=∀(a0_0:Int) (a0_1:Int) (a0_2:Int) (a1_0:Int) (a1_1:Int) (a1_2:Int),(Lit.int .i64 a0_0).wf=true→(Lit.int .i64 a0_1).wf=true→(Lit.int .i64 a0_2).wf=true→(Lit.int .i64 a1_0).wf=true→(Lit.int .i64 a1_1).wf=true→(Lit.int .i64 a1_2).wf=true→∃k,laws_FnExactOrthogonalSum.f k a0_0 a0_1 a0_2 a1_0 a1_1 a1_2=some true
theorem laws_FnExactOrthogonalSum.walk (P:laws_FnExactOrthogonalSum.Pure) (a0_0:Int) (a0_1:Int) (a0_2:Int) (a1_0:Int) (a1_1:Int) (a1_2:Int) (w:World) (w0_0:(Lit.int .i64 a0_0).wf=true) (w0_1:(Lit.int .i64 a0_1).wf=true) (w0_2:(Lit.int .i64 a0_2).wf=true) (w1_0:(Lit.int .i64 a1_0).wf=true) (w1_1:(Lit.int .i64 a1_1).wf=true) (w1_2:(Lit.int .i64 a1_2).wf=true):
  Calls Try.prog 5 #[.agg #[.int .i64 a0_0,.int .i64 a0_1,.int .i64 a0_2],.agg #[.int .i64 a1_0,.int .i64 a1_1,.int .i64 a1_2]] w fun e w'=>e=.returned (.bool true)∧Below w.heap.size w w':=by
 obtain⟨k,h⟩:=P a0_0 a0_1 a0_2 a1_0 a1_1 a1_2 w0_0 w0_1 w0_2 w1_0 w1_1 w1_2;refine(laws_FnExactOrthogonalSum.calls k a0_0 a0_1 a0_2 a1_0 a1_1 a1_2 w  h).mono ?_;rintro e w' ⟨rfl,hd⟩;exact⟨rfl,hd⟩

end Go.Proofs.Ytefhabkikaadiaa.PFnExactOrthogonalSum
