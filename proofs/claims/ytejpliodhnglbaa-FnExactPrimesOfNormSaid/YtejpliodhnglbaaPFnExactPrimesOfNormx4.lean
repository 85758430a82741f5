/- The functions that the law reaches, as plain functions, each with the proof that the program comes to it; no condition. Written by a program of this session (wip/mp.py) over the printing of the kit; what is marked HAND is told by hand. -/
import Derived.Test.YtejpliodhnglbaaPFnExactPrimesOfNormx0
import Derived.Test.YtejpliodhnglbaaPFnExactPrimesOfNormx3
namespace Go.Proofs.Ytejpliodhnglbaa.PFnExactPrimesOfNorm
open Go.RowKit Go.Proofs.YtejpliodhnglbaaW.PrintWords Go.Proofs.YtejpliodhnglbaaW.PrintLast Go.Proofs.YtejpliodhnglbaaW.PrintMore
attribute [local go_sem] max2_int min2_int max_two min_two max_three min_three max_four min_four   -- for this text's walks alone
set_option linter.unusedVariables false
set_option linter.unusedSimpArgs false

/-! ### laws_eqCyclo: function 11 -/
def laws_eqCyclo.f (k:Nat) (a0_0:Int) (l0_1:List Int) (a1_0:Int) (l1_1:List Int):Option (Bool):=if a0_0=a1_0 then ((laws_eqInt64S.f k l0_1 l1_1).bind fun t212=>(if t212=true then (some true) else (some false))) else (some false)
theorem laws_eqCyclo.mono:∀a0 a1 a2 a3 k,LeO (laws_eqCyclo.f k a0 a1 a2 a3) (laws_eqCyclo.f (k+1) a0 a1 a2 a3):=by
  intro a0 a1 a2 a3 k;unfold laws_eqCyclo.f;repeat' first
      |(with_reducible exact laws_eqInt64S.mono _ _ _)
      |(with_reducible exact LeO.refl _)
      |(with_reducible exact LeO.none _)
      |(with_reducible refine LeO.ite ?_ ?_)
      |(with_reducible refine LeO.bind ?_ (fun _=>?_))
      |exact laws_eqInt64S.mono _ _ _
      |exact LeO.none _
      |refine LeO.ite ?_ ?_
      |refine LeO.bind ?_ (fun _=>?_)
set_option maxHeartbeats 8000000 in
set_option maxRecDepth 100000 in
theorem laws_eqCyclo.calls (k:Nat) (a0_0:Int) (A0_1:Option Addr) (c0_1:Nat) (l0_1:List Int) (a1_0:Int) (A1_1:Option Addr) (c1_1:Nat) (l1_1:List Int) (r:Bool) (w:World) (hr0_1:Kd.C (Kd.int .i64) w A0_1 l0_1.length l0_1) (hc0_1:l0_1.length≤c0_1) (hr1_1:Kd.C (Kd.int .i64) w A1_1 l1_1.length l1_1) (hc1_1:l1_1.length≤c1_1) (h:laws_eqCyclo.f k a0_0 l0_1 a1_0 l1_1=some r):
    Calls Try.prog 11 #[.agg #[.int .i64 a0_0,.slice A0_1 l0_1.length c0_1],.agg #[.int .i64 a1_0,.slice A1_1 l1_1.length c1_1]] w fun e w'=>e=.returned (.bool r)∧Below w.heap.size w w':=by
  have hu26:=Try.underlying26;have HR0_1:=qAm hr0_1;have HC0_1:=qAm hc0_1;clear hr0_1 hc0_1;have HR1_1:=qAm hr1_1;have HC1_1:=qAm hc1_1;clear hr1_1 hc1_1;have HB:=qAm (Below.refl w.heap.size w);have H:(if a0_0=a1_0 then ((laws_eqInt64S.f k l0_1 l1_1).bind fun t212=>(if t212=true then (some true) else (some false))) else (some false))=some r:=h;clear h
  by_cases c3:a0_0=a1_0
  · rw [if_pos c3] at H
    have c3b0:(a0_0==a1_0)=true:=beq_iff_eq.mpr c3;have c3b1:(a0_0 !=a1_0)=false:=bne_eq_false_iff_eq.mpr c3;clear c3;replace H:=qOb H;obtain⟨t212,A40,H⟩:=H;replace H:(if t212=true then (some true) else (some false))=some r:=H;have A4:=qAm A40;clear A40
    by_cases c5:t212=true
    · subst c5
      have H1:(some true)=some r:=by rw [if_pos rfl] at H;exact H
      clear H;have H:=H1;clear H1;obtain rfl:=Option.some.inj H;go_enter Try.func11,Try.ntmps11;go_wp2_with (first|((with_reducible refine gate_dst (N:=2) rfl ?_);refine box_event ?hg (N:=2) ?hd (cs:=#[.int .i64 a0_0,.slice A0_1 l0_1.length c0_1]) (t:=26) ?hr ?_;(case hd=>rfl);(case hg=>rfl);(case hr=>first|(go_simp;done)|(go_simp;rfl));intro gb210 hg w6 hbox hb;have n0_:=qAm (below_step qB16 hb);have n1_:=qAm (hbox);have n2_:=qAm ((by rw [hg];exact(below_size qB16):w.heap.size≤gb210));have n3_:=qAm ((by rw [hg];exact(below_size qB16):w.heap.size≤gb210));clear HB;have HB:=n0_;have BK210:=n1_;have GW210:=n2_;have GE210:=n3_;clear n0_ n1_ n2_ n3_;clear hb hbox hg)|((with_reducible refine gate_dst (N:=3) rfl ?_);refine box_event ?hg (N:=3) ?hd (cs:=#[.int .i64 a1_0,.slice A1_1 l1_1.length c1_1]) (t:=26) ?hr ?_;(case hd=>rfl);(case hg=>rfl);(case hr=>first|(go_simp;done)|(go_simp;rfl));intro gb211 hg w7 hbox hb;have n0_:=qAm (blk_below (g:=gb210) (o:=.cells #[.int .i64 a0_0,.slice A0_1 l0_1.length c0_1] 26 (0,0)) qB22 hb);have n1_:=qAm (below_step qB12 hb);have n2_:=qAm (hbox);have n3_:=qAm ((by rw [hg];exact(below_size qB12):w.heap.size≤gb211));have n4_:=qAm ((by rw [hg];exact(below_size qB12):w.heap.size≤gb211));have n5_:=qAm ((by rw [hg];exact Nat.ne_of_lt (blk_lt (g:=gb210) (o:=.cells #[.int .i64 a0_0,.slice A0_1 l0_1.length c0_1] 26 (0,0)) qB22):gb210≠gb211));have n6_:=qAm ((by rw [hg];exact Nat.ne_of_gt (blk_lt (g:=gb210) (o:=.cells #[.int .i64 a0_0,.slice A0_1 l0_1.length c0_1] 26 (0,0)) qB22):gb211≠gb210));clear BK210;clear HB;have BK210:=n0_;have HB:=n1_;have BK211:=n2_;have GW211:=n3_;have GE211:=n4_;have NB210_211:=n5_;have NB211_210:=n6_;clear n0_ n1_ n2_ n3_ n4_ n5_ n6_;clear hb hbox hg;have hnb8:=NB210_211.1;have hnc8:=NB211_210.1;have hcz9_0:w7.cell? ⟨gb210,0,none⟩=some (.int .i64 a0_0):=(blk_cell BK210.1 0).trans rfl;have hcz9_1:w7.cell? ⟨gb210,1,none⟩=some (.slice A0_1 l0_1.length c0_1):=(blk_cell BK210.1 1).trans rfl;have hfz9_0:=blk_frozen BK210.1 0;have hfz9_1:=blk_frozen BK210.1 1;have hcz10_0:w7.cell? ⟨gb211,0,none⟩=some (.int .i64 a1_0):=(blk_cell BK211.1 0).trans rfl;have hcz10_1:w7.cell? ⟨gb211,1,none⟩=some (.slice A1_1 l1_1.length c1_1):=(blk_cell BK211.1 1).trans rfl;have hfz10_0:=blk_frozen BK211.1 0;have hfz10_1:=blk_frozen BK211.1 1)|((with_reducible refine gate_callee (f:=32) rfl ?_);refine goesL_ (some 14) rfl rfl Try.func32 (by kernel_rfl) rfl #[.slice A0_1 l0_1.length c0_1,.slice A1_1 l1_1.length c1_1] rfl qB15 ?_;(with_reducible refine(laws_eqInt64S.calls k _ _ l0_1 _ _ l1_1 true _ ?side1 ?side2 ?side3 ?side4 A4.1).mono ?_);(case side1=>repeat(first|exact(Kd.C_below HR0_1.1 HB.1)|(with_reducible refine Kd.C_alloc ?_ _)|(with_reducible refine Kd.C_drewN ?_ _)|(with_reducible refine Kd.C_drew ?_)));(case side2=>exact HC0_1.1);(case side3=>repeat(first|exact(Kd.C_below HR1_1.1 HB.1)|(with_reducible refine Kd.C_alloc ?_ _)|(with_reducible refine Kd.C_drewN ?_ _)|(with_reducible refine Kd.C_drew ?_)));(case side4=>exact HC1_1.1);rintro e w' ⟨rfl,⟨nd,rfl⟩⟩;refine⟨_,rfl,?_⟩));go_ret;exact⟨by first|rfl|(simp [errW_none,errW_some] <;> rfl)|(simp [*,errW_none,errW_some] <;> rfl),by repeat(first|(with_reducible first|exact HB.1|apply below_alloc|apply pw_below_drewN|apply below_drew1|refine below_set ?_ GE210.1|refine below_set ?_ GE211.1)|exact HB.1)⟩
    · replace c5:=Bool.eq_false_iff.mpr c5
      subst c5;have H1:(some false)=some r:=by rw [if_neg (show ¬(false=true) by decide)] at H;exact H
      clear H;have H:=H1;clear H1;obtain rfl:=Option.some.inj H;go_enter Try.func11,Try.ntmps11;go_wp2_with (first|((with_reducible refine gate_dst (N:=2) rfl ?_);refine box_event ?hg (N:=2) ?hd (cs:=#[.int .i64 a0_0,.slice A0_1 l0_1.length c0_1]) (t:=26) ?hr ?_;(case hd=>rfl);(case hg=>rfl);(case hr=>first|(go_simp;done)|(go_simp;rfl));intro gb210 hg w11 hbox hb;have n0_:=qAm (below_step qB16 hb);have n1_:=qAm (hbox);have n2_:=qAm ((by rw [hg];exact(below_size qB16):w.heap.size≤gb210));have n3_:=qAm ((by rw [hg];exact(below_size qB16):w.heap.size≤gb210));clear HB;have HB:=n0_;have BK210:=n1_;have GW210:=n2_;have GE210:=n3_;clear n0_ n1_ n2_ n3_;clear hb hbox hg)|((with_reducible refine gate_dst (N:=3) rfl ?_);refine box_event ?hg (N:=3) ?hd (cs:=#[.int .i64 a1_0,.slice A1_1 l1_1.length c1_1]) (t:=26) ?hr ?_;(case hd=>rfl);(case hg=>rfl);(case hr=>first|(go_simp;done)|(go_simp;rfl));intro gb211 hg w12 hbox hb;have n0_:=qAm (blk_below (g:=gb210) (o:=.cells #[.int .i64 a0_0,.slice A0_1 l0_1.length c0_1] 26 (0,0)) qB22 hb);have n1_:=qAm (below_step qB12 hb);have n2_:=qAm (hbox);have n3_:=qAm ((by rw [hg];exact(below_size qB12):w.heap.size≤gb211));have n4_:=qAm ((by rw [hg];exact(below_size qB12):w.heap.size≤gb211));have n5_:=qAm ((by rw [hg];exact Nat.ne_of_lt (blk_lt (g:=gb210) (o:=.cells #[.int .i64 a0_0,.slice A0_1 l0_1.length c0_1] 26 (0,0)) qB22):gb210≠gb211));have n6_:=qAm ((by rw [hg];exact Nat.ne_of_gt (blk_lt (g:=gb210) (o:=.cells #[.int .i64 a0_0,.slice A0_1 l0_1.length c0_1] 26 (0,0)) qB22):gb211≠gb210));clear BK210;clear HB;have BK210:=n0_;have HB:=n1_;have BK211:=n2_;have GW211:=n3_;have GE211:=n4_;have NB210_211:=n5_;have NB211_210:=n6_;clear n0_ n1_ n2_ n3_ n4_ n5_ n6_;clear hb hbox hg;have hnb13:=NB210_211.1;have hnc13:=NB211_210.1;have hcz14_0:w12.cell? ⟨gb210,0,none⟩=some (.int .i64 a0_0):=(blk_cell BK210.1 0).trans rfl;have hcz14_1:w12.cell? ⟨gb210,1,none⟩=some (.slice A0_1 l0_1.length c0_1):=(blk_cell BK210.1 1).trans rfl;have hfz14_0:=blk_frozen BK210.1 0;have hfz14_1:=blk_frozen BK210.1 1;have hcz15_0:w12.cell? ⟨gb211,0,none⟩=some (.int .i64 a1_0):=(blk_cell BK211.1 0).trans rfl;have hcz15_1:w12.cell? ⟨gb211,1,none⟩=some (.slice A1_1 l1_1.length c1_1):=(blk_cell BK211.1 1).trans rfl;have hfz15_0:=blk_frozen BK211.1 0;have hfz15_1:=blk_frozen BK211.1 1)|((with_reducible refine gate_callee (f:=32) rfl ?_);refine goesL_ (some 14) rfl rfl Try.func32 (by kernel_rfl) rfl #[.slice A0_1 l0_1.length c0_1,.slice A1_1 l1_1.length c1_1] rfl qB15 ?_;(with_reducible refine(laws_eqInt64S.calls k _ _ l0_1 _ _ l1_1 false _ ?side1 ?side2 ?side3 ?side4 A4.1).mono ?_);(case side1=>repeat(first|exact(Kd.C_below HR0_1.1 HB.1)|(with_reducible refine Kd.C_alloc ?_ _)|(with_reducible refine Kd.C_drewN ?_ _)|(with_reducible refine Kd.C_drew ?_)));(case side2=>exact HC0_1.1);(case side3=>repeat(first|exact(Kd.C_below HR1_1.1 HB.1)|(with_reducible refine Kd.C_alloc ?_ _)|(with_reducible refine Kd.C_drewN ?_ _)|(with_reducible refine Kd.C_drew ?_)));(case side4=>exact HC1_1.1);rintro e w' ⟨rfl,⟨nd,rfl⟩⟩;refine⟨_,rfl,?_⟩));go_ret;exact⟨by first|rfl|(simp [errW_none,errW_some] <;> rfl)|(simp [*,errW_none,errW_some] <;> rfl),by repeat(first|(with_reducible first|exact HB.1|apply below_alloc|apply pw_below_drewN|apply below_drew1|refine below_set ?_ GE210.1|refine below_set ?_ GE211.1)|exact HB.1)⟩
  · rw [if_neg c3] at H
    have c3b0:(a0_0==a1_0)=false:=beq_eq_false_iff_ne.mpr c3;have c3b1:(a0_0 !=a1_0)=true:=bne_iff_ne.mpr c3;obtain rfl:=Option.some.inj H;go_enter Try.func11,Try.ntmps11;go_wp2_with (first|((with_reducible refine gate_dst (N:=2) rfl ?_);refine box_event ?hg (N:=2) ?hd (cs:=#[.int .i64 a0_0,.slice A0_1 l0_1.length c0_1]) (t:=26) ?hr ?_;(case hd=>rfl);(case hg=>rfl);(case hr=>first|(go_simp;done)|(go_simp;rfl));intro gb210 hg w16 hbox hb;have n0_:=qAm (below_step qB16 hb);have n1_:=qAm (hbox);have n2_:=qAm ((by rw [hg];exact(below_size qB16):w.heap.size≤gb210));have n3_:=qAm ((by rw [hg];exact(below_size qB16):w.heap.size≤gb210));clear HB;have HB:=n0_;have BK210:=n1_;have GW210:=n2_;have GE210:=n3_;clear n0_ n1_ n2_ n3_;clear hb hbox hg)|((with_reducible refine gate_dst (N:=3) rfl ?_);refine box_event ?hg (N:=3) ?hd (cs:=#[.int .i64 a1_0,.slice A1_1 l1_1.length c1_1]) (t:=26) ?hr ?_;(case hd=>rfl);(case hg=>rfl);(case hr=>first|(go_simp;done)|(go_simp;rfl));intro gb211 hg w17 hbox hb;have n0_:=qAm (blk_below (g:=gb210) (o:=.cells #[.int .i64 a0_0,.slice A0_1 l0_1.length c0_1] 26 (0,0)) qB22 hb);have n1_:=qAm (below_step qB12 hb);have n2_:=qAm (hbox);have n3_:=qAm ((by rw [hg];exact(below_size qB12):w.heap.size≤gb211));have n4_:=qAm ((by rw [hg];exact(below_size qB12):w.heap.size≤gb211));have n5_:=qAm ((by rw [hg];exact Nat.ne_of_lt (blk_lt (g:=gb210) (o:=.cells #[.int .i64 a0_0,.slice A0_1 l0_1.length c0_1] 26 (0,0)) qB22):gb210≠gb211));have n6_:=qAm ((by rw [hg];exact Nat.ne_of_gt (blk_lt (g:=gb210) (o:=.cells #[.int .i64 a0_0,.slice A0_1 l0_1.length c0_1] 26 (0,0)) qB22):gb211≠gb210));clear BK210;clear HB;have BK210:=n0_;have HB:=n1_;have BK211:=n2_;have GW211:=n3_;have GE211:=n4_;have NB210_211:=n5_;have NB211_210:=n6_;clear n0_ n1_ n2_ n3_ n4_ n5_ n6_;clear hb hbox hg;have hnb18:=NB210_211.1;have hnc18:=NB211_210.1;have hcz19_0:w17.cell? ⟨gb210,0,none⟩=some (.int .i64 a0_0):=(blk_cell BK210.1 0).trans rfl;have hcz19_1:w17.cell? ⟨gb210,1,none⟩=some (.slice A0_1 l0_1.length c0_1):=(blk_cell BK210.1 1).trans rfl;have hfz19_0:=blk_frozen BK210.1 0;have hfz19_1:=blk_frozen BK210.1 1;have hcz20_0:w17.cell? ⟨gb211,0,none⟩=some (.int .i64 a1_0):=(blk_cell BK211.1 0).trans rfl;have hcz20_1:w17.cell? ⟨gb211,1,none⟩=some (.slice A1_1 l1_1.length c1_1):=(blk_cell BK211.1 1).trans rfl;have hfz20_0:=blk_frozen BK211.1 0;have hfz20_1:=blk_frozen BK211.1 1));go_ret;exact⟨by first|rfl|(simp [errW_none,errW_some] <;> rfl)|(simp [*,errW_none,errW_some] <;> rfl),by repeat(first|(with_reducible first|exact HB.1|apply below_alloc|apply pw_below_drewN|apply below_drew1|refine below_set ?_ GE210.1|refine below_set ?_ GE211.1)|exact HB.1)⟩

/-! ### laws_eqCycloS: function 20 -/
def laws_eqCycloS.l0:Nat→List (S26)→List (S26)→Int→Option (Bool)
  |0,_,_,_=>none
  |k+1,x0,x1,x5=>if x5<(x0.length:Int) then (if 0≤x5 then (if x5<(x1.length:Int) then ((laws_eqCyclo.f k ((rd_T26 x0 x5).f0) ((rd_T26 x0 x5).f1) ((rd_T26 x1 x5).f0) ((rd_T26 x1 x5).f1)).bind fun t215=>(if t215=true then (laws_eqCycloS.l0 k x0 x1 (wrap64 (x5+1))) else (some false))) else (none)) else (none)) else (some true)
def laws_eqCycloS.f (k:Nat) (l0:List (S26)) (l1:List (S26)):Option (Bool):=if (l0.length:Int)=(l1.length:Int) then (laws_eqCycloS.l0 k l0 l1 0) else (some false)
theorem laws_eqCycloS.mono_l:∀k,(∀y0 y1 y2,LeO (laws_eqCycloS.l0 k y0 y1 y2) (laws_eqCycloS.l0 (k+1) y0 y1 y2))
  |0=>fun _ _ _ r h=>by simp [laws_eqCycloS.l0] at h
  |k+1=>by
    have ih0:=laws_eqCycloS.mono_l k
    · intro y0 y1 y2
      unfold laws_eqCycloS.l0;repeat' first
      |(with_reducible exact ih0 _ _ _)
      |(with_reducible exact laws_eqCyclo.mono _ _ _ _ _)
      |(with_reducible exact LeO.refl _)
      |(with_reducible exact LeO.none _)
      |(with_reducible refine LeO.ite ?_ ?_)
      |(with_reducible refine LeO.bind ?_ (fun _=>?_))
      |exact ih0 _ _ _
      |exact laws_eqCyclo.mono _ _ _ _ _
      |exact LeO.none _
      |refine LeO.ite ?_ ?_
      |refine LeO.bind ?_ (fun _=>?_)
theorem laws_eqCycloS.mono:∀a0 a1 k,LeO (laws_eqCycloS.f k a0 a1) (laws_eqCycloS.f (k+1) a0 a1):=by
  intro a0 a1 k;have ih0:=laws_eqCycloS.mono_l k;unfold laws_eqCycloS.f;repeat' first
      |(with_reducible exact ih0 _ _ _)
      |(with_reducible exact laws_eqCyclo.mono _ _ _ _ _)
      |(with_reducible exact LeO.refl _)
      |(with_reducible exact LeO.none _)
      |(with_reducible refine LeO.ite ?_ ?_)
      |(with_reducible refine LeO.bind ?_ (fun _=>?_))
      |exact ih0 _ _ _
      |exact laws_eqCyclo.mono _ _ _ _ _
      |exact LeO.none _
      |refine LeO.ite ?_ ?_
      |refine LeO.bind ?_ (fun _=>?_)
def laws_eqCycloS.T6:Bool×List (List Nat×List Nat):=(true,[([],[]),([],[]),([0,1],[0,1]),([2],[2]),([],[]),([],[]),([4,5],[4,5]),([6],[6]),([3,7],[3,7]),([8],[8])])
def laws_eqCycloS.B6:List Nat:=[0,0,3,7,0,0,48,112,255,511]
theorem laws_eqCycloS.tab6:rtab .any (opsOf Try.f20 6)=laws_eqCycloS.T6:=by kernel_rfl
theorem laws_eqCycloS.bits6:waitsOk laws_eqCycloS.T6.2 laws_eqCycloS.B6=true:=by kernel_rfl
set_option maxHeartbeats 8000000 in
set_option maxRecDepth 100000 in
theorem laws_eqCycloS.calls (k:Nat) (A0:Option Addr) (c0:Nat) (l0:List (S26)) (A1:Option Addr) (c1:Nat) (l1:List (S26)) (r:Bool) (w:World) (hr0:Kd.C k26 w A0 l0.length l0) (hc0:l0.length≤c0) (hr1:Kd.C k26 w A1 l1.length l1) (hc1:l1.length≤c1) (h:laws_eqCycloS.f k l0 l1=some r):
    Calls Try.prog 20 #[.slice A0 l0.length c0,.slice A1 l1.length c1] w fun e w'=>e=.returned (.bool r)∧Below w.heap.size w w':=by
  have hu26:=Try.underlying26;have HR0:=qAm hr0;have HC0:=qAm hc0;clear hr0 hc0;have HR1:=qAm hr1;have HC1:=qAm hc1;clear hr1 hc1;have HB:=qAm (Below.refl w.heap.size w);have H:(if (l0.length:Int)=(l1.length:Int) then (laws_eqCycloS.l0 k l0 l1 0) else (some false))=some r:=h;clear h
  by_cases c3:(l0.length:Int)=(l1.length:Int)
  · rw [if_pos c3] at H
    have c3b0:((l0.length:Int)==(l1.length:Int))=true:=beq_iff_eq.mpr c3;have c3b1:((l0.length:Int) !=(l1.length:Int))=false:=bne_eq_false_iff_eq.mpr c3;have c3b2:(l0.length==l1.length)=true:=by first|simpa using c3|(simp at c3 ⊢;omega)
    clear c3;have H':=qAm H;clear H;go_enter Try.func20,Try.ntmps20;go_wp2;try simp only [Act.put,qSa,qSc,qSb]
    go_loopg [5] k (fun kq v5 w'=>∃(x5_1:Int),v5=.int .i64 x5_1∧Aside0 (laws_eqCycloS.l0 kq l0 l1 x5_1=some r)∧Aside0 (kq≤k)∧Aside0 (Below w.heap.size w w'))
    case atStart=>exact⟨(0),qB37,H',⟨Nat.le_refl _⟩,⟨by repeat(first|(with_reducible first|exact HB.1|apply below_alloc|apply pw_below_drewN|apply below_drew1)|exact HB.1)⟩⟩
    case round=>
      clear H';try clear c1
      try clear c2
      try clear p2
      try clear c3
      try clear c3b0
      try clear c3b1
      try clear c3b2
      obtain⟨x5_1,rfl,HA,HK1,HB⟩:=hrel;cases gk with
      |zero=>exact absurd HA.1 (by simp [laws_eqCycloS.l0])
      |succ k1=>
        have H:=HA.1;clear HA;simp only [laws_eqCycloS.l0] at H
        by_cases c4:x5_1<(l0.length:Int)
        · rw [if_pos c4] at H
          have c4b0:decide (x5_1<(l0.length:Int))=true:=decide_eq_true c4;clear c4
          by_cases c5:0≤x5_1
          · rw [if_pos c5] at H
            have c5b0:decide (0≤x5_1)=true:=decide_eq_true c5;clear c5
            by_cases c6:x5_1<(l1.length:Int)
            · rw [if_pos c6] at H
              have c6b0:decide (x5_1<(l1.length:Int))=true:=decide_eq_true c6;clear c6;replace H:=qOb H;obtain⟨t215,A70,H⟩:=H;replace H:(if t215=true then (laws_eqCycloS.l0 k1 l0 l1 (wrap64 (x5_1+1))) else (some false))=some r:=H;have A7:=qAm A70;clear A70
              by_cases c8:t215=true
              · subst c8
                have H1:(laws_eqCycloS.l0 k1 l0 l1 (wrap64 (x5_1+1)))=some r:=by rw [if_pos rfl] at H;exact H
                clear H;have H:=H1;clear H1;have H':=qAm H;clear H;try go_wp2
                have n0_:=qAm (below_drew1 HB.1);clear HB;have HB:=n0_;clear n0_;have p213:0≤(x5_1:Int):=of_decide_eq_true qB36;have q213:x5_1<(l0.length:Int):=of_decide_eq_true qB36;obtain⟨ad213,A213_1,c213_1,e213,hx213_0,hx213_1,hl213_1,hi213_1⟩:=at_T26 HR0.1 x5_1 p213 q213;have hw213_1:=hx213_1;have hw213_0:=hx213_0;cases e213
                replace hx213_0:=(HB.1.cell (World.block_lt_of_cell? w _ hx213_0)).trans hx213_0;replace hx213_1:=(HB.1.cell (World.block_lt_of_cell? w _ hx213_1)).trans hx213_1;have HR213_1:=qAm hi213_1;have HC213_1:=qAm hl213_1;clear hi213_1 hl213_1;replace p213:=eq_true p213;replace q213:=eq_true q213;have p214:0≤(x5_1:Int):=of_decide_eq_true qB36;have q214:x5_1<(l1.length:Int):=of_decide_eq_true qB36;obtain⟨ad214,A214_1,c214_1,e214,hx214_0,hx214_1,hl214_1,hi214_1⟩:=at_T26 HR1.1 x5_1 p214 q214;have hw214_1:=hx214_1;have hw214_0:=hx214_0;cases e214
                replace hx214_0:=(HB.1.cell (World.block_lt_of_cell? w _ hx214_0)).trans hx214_0;replace hx214_1:=(HB.1.cell (World.block_lt_of_cell? w _ hx214_1)).trans hx214_1;have HR214_1:=qAm hi214_1;have HC214_1:=qAm hl214_1;clear hi214_1 hl214_1;replace p214:=eq_true p214;replace q214:=eq_true q214;refine start_ (n:=10) (S:=fun w'=>w'.cell? (ad213.add ((x5_1).toNat*2))=some (.int .i64 ((rd_T26 l0 x5_1).f0))∧w'.cell? ⟨(ad213.add ((x5_1).toNat*2)).block,(ad213.add ((x5_1).toNat*2)).off+1,none⟩=some (.slice A213_1 ((rd_T26 l0 x5_1).f1).length c213_1)∧w'.cell? (ad214.add ((x5_1).toNat*2))=some (.int .i64 ((rd_T26 l1 x5_1).f0))∧w'.cell? ⟨(ad214.add ((x5_1).toNat*2)).block,(ad214.add ((x5_1).toNat*2)).off+1,none⟩=some (.slice A214_1 ((rd_T26 l1 x5_1).f1).length c214_1)) (ds:=[]) #[false,false,false,false,false,false,false,false,false,false] (by kernel_rfl) rfl rfl ⟨((HB.1.cell (World.block_lt_of_cell? w _ hw213_0)).trans hw213_0),((HB.1.cell (World.block_lt_of_cell? w _ hw213_1)).trans hw213_1),((HB.1.cell (World.block_lt_of_cell? w _ hw214_0)).trans hw214_0),((HB.1.cell (World.block_lt_of_cell? w _ hw214_1)).trans hw214_1)⟩ (fun hHeld=>?_);refine with_tabW laws_eqCycloS.tab6 laws_eqCycloS.bits6 (fun HT_ HW_=>?_);generalize wr.drew=w9 at HB HR213_1 HR214_1 hx213_0 hx213_1 hx214_0 hx214_1 hHeld ⊢;refine pure_ (i:=0) (N:=some 17) (v:=?_) (a':=?_) #[true,false,false,false,false,false,false,false,false,false] rfl rfl (any_of HT_.1 (by kernel_rfl)) (fun _ _ _ h=>h) (Or.inl ⟨by rfl,?_⟩) ?_ ?_;rotate_left
                · intro w'
                  go_simp;with_reducible rfl
                rotate_left
                · simp only [Act.put,qSa,qSb,qSc,i64_w,i32_w]
                  rfl
                refine pure_ (i:=1) (N:=some 18) (v:=?_) (a':=?_) #[true,true,false,false,false,false,false,false,false,false] rfl rfl (any_of HT_.1 (by kernel_rfl)) (fun _ _ _ h=>h) (Or.inl ⟨by rfl,?_⟩) ?_ ?_;rotate_left
                · intro w'
                  go_simp;with_reducible rfl
                rotate_left
                · simp only [Act.put,qSa,qSb,qSc,i64_w,i32_w]
                  rfl
                refine pure_ (i:=2) (N:=some 19) (v:=?_) (a':=?_) #[true,true,true,false,false,false,false,false,false,false] rfl rfl (any_of HT_.1 (by kernel_rfl)) (fun _ _ _ h=>h) (Or.inl ⟨by rfl,?_⟩) ?_ ?_;rotate_left
                · intro w'
                  go_simp;with_reducible rfl
                rotate_left
                · simp only [Act.put,qSa,qSb,qSc,i64_w,i32_w]
                  rfl
                refine pure_ (i:=4) (N:=some 21) (v:=?_) (a':=?_) #[true,true,true,false,true,false,false,false,false,false] rfl rfl (any_of HT_.1 (by kernel_rfl)) (fun _ _ _ h=>h) (Or.inl ⟨by rfl,?_⟩) ?_ ?_;rotate_left
                · intro w'
                  go_simp;with_reducible rfl
                rotate_left
                · simp only [Act.put,qSa,qSb,qSc,i64_w,i32_w]
                  rfl
                refine pure_ (i:=5) (N:=some 22) (v:=?_) (a':=?_) #[true,true,true,false,true,true,false,false,false,false] rfl rfl (any_of HT_.1 (by kernel_rfl)) (fun _ _ _ h=>h) (Or.inl ⟨by rfl,?_⟩) ?_ ?_;rotate_left
                · intro w'
                  go_simp;with_reducible rfl
                rotate_left
                · simp only [Act.put,qSa,qSb,qSc,i64_w,i32_w]
                  rfl
                refine pure_ (i:=6) (N:=some 23) (v:=?_) (a':=?_) #[true,true,true,false,true,true,true,false,false,false] rfl rfl (any_of HT_.1 (by kernel_rfl)) (fun _ _ _ h=>h) (Or.inl ⟨by rfl,?_⟩) ?_ ?_;rotate_left
                · intro w'
                  go_simp;with_reducible rfl
                rotate_left
                · simp only [Act.put,qSa,qSb,qSc,i64_w,i32_w]
                  rfl
                refine take_ (i:=3) (N:=some 20) (v:=?_) (a':=?_) #[true,true,true,true,true,true,true,false,false,false] rfl rfl (take_ofW HT_.1 HW_.1 (by kernel_rfl)) (fun _ _ _ h=>h) (Or.inl ⟨by rfl,?_⟩) hHeld ?_ ?_;rotate_left
                · rintro w' ⟨s0,s1,s2,s3⟩
                  go_simp;with_reducible rfl
                rotate_left
                · simp only [Act.put,qSa,qSb,qSc,i64_w,i32_w]
                  rfl
                refine take_ (i:=7) (N:=some 24) (v:=?_) (a':=?_) #[true,true,true,true,true,true,true,true,false,false] rfl rfl (take_ofW HT_.1 HW_.1 (by kernel_rfl)) (fun _ _ _ h=>h) (Or.inl ⟨by rfl,?_⟩) hHeld ?_ ?_;rotate_left
                · rintro w' ⟨s0,s1,s2,s3⟩
                  go_simp;with_reducible rfl
                rotate_left
                · simp only [Act.put,qSa,qSb,qSc,i64_w,i32_w]
                  rfl
                refine one_ (i:=8) (N:=some 25) #[true,true,true,true,true,true,true,true,true,false] rfl rfl (one_of HT_.1 (by kernel_rfl)) (by decide) (fun K hK=>?_);refine goes_ Try.func11 (by kernel_rfl) rfl #[.agg #[.int .i64 ((rd_T26 l0 x5_1).f0),.slice A213_1 ((rd_T26 l0 x5_1).f1).length c213_1],.agg #[.int .i64 ((rd_T26 l1 x5_1).f0),.slice A214_1 ((rd_T26 l1 x5_1).f1).length c214_1]] (by rfl) rfl rfl qB15 ?_;with_reducible refine(laws_eqCyclo.calls k1 ((rd_T26 l0 x5_1).f0) _ _ ((rd_T26 l0 x5_1).f1) ((rd_T26 l1 x5_1).f0) _ _ ((rd_T26 l1 x5_1).f1) true _ ?side1 ?side2 ?side3 ?side4 A7.1).mono ?_
                (case side1=>repeat(first|exact(Kd.C_below HR213_1.1 HB.1)|(with_reducible refine Kd.C_alloc ?_ _)|(with_reducible refine Kd.C_drewN ?_ _)|(with_reducible refine Kd.C_drew ?_)))
                (case side2=>exact HC213_1.1)
                (case side3=>repeat(first|exact(Kd.C_below HR214_1.1 HB.1)|(with_reducible refine Kd.C_alloc ?_ _)|(with_reducible refine Kd.C_drewN ?_ _)|(with_reducible refine Kd.C_drew ?_)))
                (case side4=>exact HC214_1.1)
                rintro e w10 ⟨rfl,hb⟩;refine⟨_,rfl,?_⟩;have n0_:=qAm (below_step qB16 hb);clear HB;have HB:=n0_;clear n0_
                (try clear hb)
                (try clear hb2)
                (try clear hk)
                (try clear hi)
                refine hK.out _ _ ⟨((HB.1.cell (World.block_lt_of_cell? w _ hw213_0)).trans hw213_0),((HB.1.cell (World.block_lt_of_cell? w _ hw213_1)).trans hw213_1),((HB.1.cell (World.block_lt_of_cell? w _ hw214_0)).trans hw214_0),((HB.1.cell (World.block_lt_of_cell? w _ hw214_1)).trans hw214_1)⟩ (fun hHeld=>?_);clear hK K;refine norm_ (a':=?_) ?_ ?_;rotate_left
                · show Act.put _ (some 25) _=_
                  simp only [Act.put,qSa,qSb,qSc,i64_w,i32_w];rfl
                refine pure_ (i:=9) (N:=some 26) (v:=?_) (a':=?_) #[true,true,true,true,true,true,true,true,true,true] rfl rfl (any_of HT_.1 (by kernel_rfl)) (fun _ _ _ h=>h) (Or.inl ⟨by rfl,?_⟩) ?_ ?_;rotate_left
                · intro w'
                  go_simp;with_reducible rfl
                rotate_left
                · simp only [Act.put,qSa,qSb,qSc,i64_w,i32_w]
                  rfl
                refine done_ (done_of HT_.1 (by kernel_rfl)) ?_;try go_wp2
                (first|go_roundg k1|((try simp only [add_plain] at *);go_roundg k1))
                case measure=>have:=HK1.1;omega
                case rel=>exact⟨(wrap64 (x5_1+1)),qB37,H',⟨by have:=HK1.1;omega⟩,⟨by repeat(first|(with_reducible first|exact HB.1|apply below_alloc|apply pw_below_drewN|apply below_drew1)|exact HB.1)⟩⟩
              · replace c8:=Bool.eq_false_iff.mpr c8
                subst c8;have H1:(some false)=some r:=by rw [if_neg (show ¬(false=true) by decide)] at H;exact H
                clear H;have H:=H1;clear H1;obtain rfl:=Option.some.inj H;try go_wp2
                have n0_:=qAm (below_drew1 HB.1);clear HB;have HB:=n0_;clear n0_;have p213:0≤(x5_1:Int):=of_decide_eq_true qB36;have q213:x5_1<(l0.length:Int):=of_decide_eq_true qB36;obtain⟨ad213,A213_1,c213_1,e213,hx213_0,hx213_1,hl213_1,hi213_1⟩:=at_T26 HR0.1 x5_1 p213 q213;have hw213_1:=hx213_1;have hw213_0:=hx213_0;cases e213
                replace hx213_0:=(HB.1.cell (World.block_lt_of_cell? w _ hx213_0)).trans hx213_0;replace hx213_1:=(HB.1.cell (World.block_lt_of_cell? w _ hx213_1)).trans hx213_1;have HR213_1:=qAm hi213_1;have HC213_1:=qAm hl213_1;clear hi213_1 hl213_1;replace p213:=eq_true p213;replace q213:=eq_true q213;have p214:0≤(x5_1:Int):=of_decide_eq_true qB36;have q214:x5_1<(l1.length:Int):=of_decide_eq_true qB36;obtain⟨ad214,A214_1,c214_1,e214,hx214_0,hx214_1,hl214_1,hi214_1⟩:=at_T26 HR1.1 x5_1 p214 q214;have hw214_1:=hx214_1;have hw214_0:=hx214_0;cases e214
                replace hx214_0:=(HB.1.cell (World.block_lt_of_cell? w _ hx214_0)).trans hx214_0;replace hx214_1:=(HB.1.cell (World.block_lt_of_cell? w _ hx214_1)).trans hx214_1;have HR214_1:=qAm hi214_1;have HC214_1:=qAm hl214_1;clear hi214_1 hl214_1;replace p214:=eq_true p214;replace q214:=eq_true q214;refine start_ (n:=10) (S:=fun w'=>w'.cell? (ad213.add ((x5_1).toNat*2))=some (.int .i64 ((rd_T26 l0 x5_1).f0))∧w'.cell? ⟨(ad213.add ((x5_1).toNat*2)).block,(ad213.add ((x5_1).toNat*2)).off+1,none⟩=some (.slice A213_1 ((rd_T26 l0 x5_1).f1).length c213_1)∧w'.cell? (ad214.add ((x5_1).toNat*2))=some (.int .i64 ((rd_T26 l1 x5_1).f0))∧w'.cell? ⟨(ad214.add ((x5_1).toNat*2)).block,(ad214.add ((x5_1).toNat*2)).off+1,none⟩=some (.slice A214_1 ((rd_T26 l1 x5_1).f1).length c214_1)) (ds:=[]) #[false,false,false,false,false,false,false,false,false,false] (by kernel_rfl) rfl rfl ⟨((HB.1.cell (World.block_lt_of_cell? w _ hw213_0)).trans hw213_0),((HB.1.cell (World.block_lt_of_cell? w _ hw213_1)).trans hw213_1),((HB.1.cell (World.block_lt_of_cell? w _ hw214_0)).trans hw214_0),((HB.1.cell (World.block_lt_of_cell? w _ hw214_1)).trans hw214_1)⟩ (fun hHeld=>?_);refine with_tabW laws_eqCycloS.tab6 laws_eqCycloS.bits6 (fun HT_ HW_=>?_);generalize wr.drew=w11 at HB HR213_1 HR214_1 hx213_0 hx213_1 hx214_0 hx214_1 hHeld ⊢;refine pure_ (i:=0) (N:=some 17) (v:=?_) (a':=?_) #[true,false,false,false,false,false,false,false,false,false] rfl rfl (any_of HT_.1 (by kernel_rfl)) (fun _ _ _ h=>h) (Or.inl ⟨by rfl,?_⟩) ?_ ?_;rotate_left
                · intro w'
                  go_simp;with_reducible rfl
                rotate_left
                · simp only [Act.put,qSa,qSb,qSc,i64_w,i32_w]
                  rfl
                refine pure_ (i:=1) (N:=some 18) (v:=?_) (a':=?_) #[true,true,false,false,false,false,false,false,false,false] rfl rfl (any_of HT_.1 (by kernel_rfl)) (fun _ _ _ h=>h) (Or.inl ⟨by rfl,?_⟩) ?_ ?_;rotate_left
                · intro w'
                  go_simp;with_reducible rfl
                rotate_left
                · simp only [Act.put,qSa,qSb,qSc,i64_w,i32_w]
                  rfl
                refine pure_ (i:=2) (N:=some 19) (v:=?_) (a':=?_) #[true,true,true,false,false,false,false,false,false,false] rfl rfl (any_of HT_.1 (by kernel_rfl)) (fun _ _ _ h=>h) (Or.inl ⟨by rfl,?_⟩) ?_ ?_;rotate_left
                · intro w'
                  go_simp;with_reducible rfl
                rotate_left
                · simp only [Act.put,qSa,qSb,qSc,i64_w,i32_w]
                  rfl
                refine pure_ (i:=4) (N:=some 21) (v:=?_) (a':=?_) #[true,true,true,false,true,false,false,false,false,false] rfl rfl (any_of HT_.1 (by kernel_rfl)) (fun _ _ _ h=>h) (Or.inl ⟨by rfl,?_⟩) ?_ ?_;rotate_left
                · intro w'
                  go_simp;with_reducible rfl
                rotate_left
                · simp only [Act.put,qSa,qSb,qSc,i64_w,i32_w]
                  rfl
                refine pure_ (i:=5) (N:=some 22) (v:=?_) (a':=?_) #[true,true,true,false,true,true,false,false,false,false] rfl rfl (any_of HT_.1 (by kernel_rfl)) (fun _ _ _ h=>h) (Or.inl ⟨by rfl,?_⟩) ?_ ?_;rotate_left
                · intro w'
                  go_simp;with_reducible rfl
                rotate_left
                · simp only [Act.put,qSa,qSb,qSc,i64_w,i32_w]
                  rfl
                refine pure_ (i:=6) (N:=some 23) (v:=?_) (a':=?_) #[true,true,true,false,true,true,true,false,false,false] rfl rfl (any_of HT_.1 (by kernel_rfl)) (fun _ _ _ h=>h) (Or.inl ⟨by rfl,?_⟩) ?_ ?_;rotate_left
                · intro w'
                  go_simp;with_reducible rfl
                rotate_left
                · simp only [Act.put,qSa,qSb,qSc,i64_w,i32_w]
                  rfl
                refine take_ (i:=3) (N:=some 20) (v:=?_) (a':=?_) #[true,true,true,true,true,true,true,false,false,false] rfl rfl (take_ofW HT_.1 HW_.1 (by kernel_rfl)) (fun _ _ _ h=>h) (Or.inl ⟨by rfl,?_⟩) hHeld ?_ ?_;rotate_left
                · rintro w' ⟨s0,s1,s2,s3⟩
                  go_simp;with_reducible rfl
                rotate_left
                · simp only [Act.put,qSa,qSb,qSc,i64_w,i32_w]
                  rfl
                refine take_ (i:=7) (N:=some 24) (v:=?_) (a':=?_) #[true,true,true,true,true,true,true,true,false,false] rfl rfl (take_ofW HT_.1 HW_.1 (by kernel_rfl)) (fun _ _ _ h=>h) (Or.inl ⟨by rfl,?_⟩) hHeld ?_ ?_;rotate_left
                · rintro w' ⟨s0,s1,s2,s3⟩
                  go_simp;with_reducible rfl
                rotate_left
                · simp only [Act.put,qSa,qSb,qSc,i64_w,i32_w]
                  rfl
                refine one_ (i:=8) (N:=some 25) #[true,true,true,true,true,true,true,true,true,false] rfl rfl (one_of HT_.1 (by kernel_rfl)) (by decide) (fun K hK=>?_);refine goes_ Try.func11 (by kernel_rfl) rfl #[.agg #[.int .i64 ((rd_T26 l0 x5_1).f0),.slice A213_1 ((rd_T26 l0 x5_1).f1).length c213_1],.agg #[.int .i64 ((rd_T26 l1 x5_1).f0),.slice A214_1 ((rd_T26 l1 x5_1).f1).length c214_1]] (by rfl) rfl rfl qB15 ?_;with_reducible refine(laws_eqCyclo.calls k1 ((rd_T26 l0 x5_1).f0) _ _ ((rd_T26 l0 x5_1).f1) ((rd_T26 l1 x5_1).f0) _ _ ((rd_T26 l1 x5_1).f1) false _ ?side1 ?side2 ?side3 ?side4 A7.1).mono ?_
                (case side1=>repeat(first|exact(Kd.C_below HR213_1.1 HB.1)|(with_reducible refine Kd.C_alloc ?_ _)|(with_reducible refine Kd.C_drewN ?_ _)|(with_reducible refine Kd.C_drew ?_)))
                (case side2=>exact HC213_1.1)
                (case side3=>repeat(first|exact(Kd.C_below HR214_1.1 HB.1)|(with_reducible refine Kd.C_alloc ?_ _)|(with_reducible refine Kd.C_drewN ?_ _)|(with_reducible refine Kd.C_drew ?_)))
                (case side4=>exact HC214_1.1)
                rintro e w12 ⟨rfl,hb⟩;refine⟨_,rfl,?_⟩;have n0_:=qAm (below_step qB16 hb);clear HB;have HB:=n0_;clear n0_
                (try clear hb)
                (try clear hb2)
                (try clear hk)
                (try clear hi)
                refine hK.out _ _ ⟨((HB.1.cell (World.block_lt_of_cell? w _ hw213_0)).trans hw213_0),((HB.1.cell (World.block_lt_of_cell? w _ hw213_1)).trans hw213_1),((HB.1.cell (World.block_lt_of_cell? w _ hw214_0)).trans hw214_0),((HB.1.cell (World.block_lt_of_cell? w _ hw214_1)).trans hw214_1)⟩ (fun hHeld=>?_);clear hK K;refine norm_ (a':=?_) ?_ ?_;rotate_left
                · show Act.put _ (some 25) _=_
                  simp only [Act.put,qSa,qSb,qSc,i64_w,i32_w];rfl
                refine pure_ (i:=9) (N:=some 26) (v:=?_) (a':=?_) #[true,true,true,true,true,true,true,true,true,true] rfl rfl (any_of HT_.1 (by kernel_rfl)) (fun _ _ _ h=>h) (Or.inl ⟨by rfl,?_⟩) ?_ ?_;rotate_left
                · intro w'
                  go_simp;with_reducible rfl
                rotate_left
                · simp only [Act.put,qSa,qSb,qSc,i64_w,i32_w]
                  rfl
                refine done_ (done_of HT_.1 (by kernel_rfl)) ?_;try go_wp2
                go_ret;exact⟨by first|rfl|(simp [errW_none,errW_some] <;> rfl)|(simp [*,errW_none,errW_some] <;> rfl),by repeat(first|(with_reducible first|exact HB.1|apply below_alloc|apply pw_below_drewN|apply below_drew1)|exact HB.1)⟩
            · rw [if_neg c6] at H
              exact absurd H (by simp)
          · rw [if_neg c5] at H
            exact absurd H (by simp)
        · rw [if_neg c4] at H
          have c4b0:decide (x5_1<(l0.length:Int))=false:=decide_eq_false c4;clear c4;obtain rfl:=Option.some.inj H;go_wp2;go_ret;exact⟨by first|rfl|(simp [errW_none,errW_some] <;> rfl)|(simp [*,errW_none,errW_some] <;> rfl),by repeat(first|(with_reducible first|exact HB.1|apply below_alloc|apply pw_below_drewN|apply below_drew1)|exact HB.1)⟩
  · rw [if_neg c3] at H
    have c3b0:((l0.length:Int)==(l1.length:Int))=false:=beq_eq_false_iff_ne.mpr c3;have c3b1:((l0.length:Int) !=(l1.length:Int))=true:=bne_iff_ne.mpr c3;have c3b2:(l0.length==l1.length)=false:=by first|simpa using c3|(simp at c3 ⊢;omega)
    obtain rfl:=Option.some.inj H;go_enter Try.func20,Try.ntmps20;go_wp2;go_ret;exact⟨by first|rfl|(simp [errW_none,errW_some] <;> rfl)|(simp [*,errW_none,errW_some] <;> rfl),by repeat(first|(with_reducible first|exact HB.1|apply below_alloc|apply pw_below_drewN|apply below_drew1)|exact HB.1)⟩

/-! ### laws_markInt64S: function 33 -/
def laws_markInt64S.l0:Nat→List Int→Int→Int→Option (Int×List Int)
  |0,_,_,_=>none
  |k+1,x0,x1,x5=>if x5<(x0.length:Int) then (if 0≤x5 then (laws_markInt64S.l0 k (x0.set (x5:Int).toNat x1) (wrap64 (x1+1)) (wrap64 (x5+1))) else (none)) else (some (x1,x0))
def laws_markInt64S.f (k:Nat) (l0:List Int) (a1:Int):Option (Int×List Int):=laws_markInt64S.l0 k l0 a1 0
theorem laws_markInt64S.mono_l:∀k,(∀y0 y1 y2,LeO (laws_markInt64S.l0 k y0 y1 y2) (laws_markInt64S.l0 (k+1) y0 y1 y2))
  |0=>fun _ _ _ r h=>by simp [laws_markInt64S.l0] at h
  |k+1=>by
    have ih0:=laws_markInt64S.mono_l k
    · intro y0 y1 y2
      unfold laws_markInt64S.l0;repeat' first
      |(with_reducible exact ih0 _ _ _)
      |(with_reducible exact LeO.refl _)
      |(with_reducible exact LeO.none _)
      |(with_reducible refine LeO.ite ?_ ?_)
      |(with_reducible refine LeO.bind ?_ (fun _=>?_))
      |exact ih0 _ _ _
      |exact LeO.none _
      |refine LeO.ite ?_ ?_
      |refine LeO.bind ?_ (fun _=>?_)
theorem laws_markInt64S.mono:∀a0 a1 k,LeO (laws_markInt64S.f k a0 a1) (laws_markInt64S.f (k+1) a0 a1):=by
  intro a0 a1 k;have ih0:=laws_markInt64S.mono_l k;unfold laws_markInt64S.f;repeat' first
      |(with_reducible exact ih0 _ _ _)
      |(with_reducible exact LeO.refl _)
      |(with_reducible exact LeO.none _)
      |(with_reducible refine LeO.ite ?_ ?_)
      |(with_reducible refine LeO.bind ?_ (fun _=>?_))
      |exact ih0 _ _ _
      |exact LeO.none _
      |refine LeO.ite ?_ ?_
      |refine LeO.bind ?_ (fun _=>?_)
set_option maxHeartbeats 8000000 in
set_option maxRecDepth 100000 in
theorem laws_markInt64S.calls (k:Nat) (P0_:Nat→Prop) (u9000_:Value) (l0:List Int) (a1:Int) (r1:Int) (r2:List Int) (w0 w:World) (hB:Below w0.heap.size w0 w) (ho0:Kd.R (Kd.int .i64) 2 w w0.heap.size P0_ u9000_ l0) (h:laws_markInt64S.f k l0 a1=some (r1,r2)):
    Calls Try.prog 33 #[u9000_,.int .i64 a1] w fun e w'=>e=.returned (.int .i64 r1)∧Kd.R (Kd.int .i64) 2 w' w0.heap.size (fun k_=>(P0_ k_∨w.heap.size≤k_)) u9000_ r2∧Below w0.heap.size w0 w'∧Kept w w' (fun k_=>P0_ k_):=by
  have HO0:=qAm (show Kd.R (Kd.int .i64) 2 w w0.heap.size (fun k_=>(P0_ k_∨w.heap.size≤k_)) u9000_ l0 from Kd.R_mono ho0 (fun k_ hk=>(.inl hk)));have HK:=qAm (Kept.refl w (fun k_=>P0_ k_));have HW0:=qAm hB.size;have HB:=qAm hB;clear hB;have H:(laws_markInt64S.l0 k l0 a1 0)=some (r1,r2):=h;clear h;have H':=qAm H;clear H;go_enter Try.func33,Try.ntmps33;go_wp2;try simp only [Act.put,qSa,qSc,qSb]
  go_loopg [1,5] k (fun kq v1 v5 w'=>∃(x0_1:List Int) (x1_1:Int) (x5_1:Int),v1=.int .i64 x1_1∧v5=.int .i64 x5_1∧Aside0 (laws_markInt64S.l0 kq x0_1 x1_1 x5_1=some (r1,r2))∧Aside0 (kq≤k)∧Aside0 (Kd.R (Kd.int .i64) 2 w' w0.heap.size (fun k_=>(P0_ k_∨w.heap.size≤k_)) u9000_ x0_1)∧Aside0 (Kept w w' (fun k_=>P0_ k_))∧Aside0 (Below w0.heap.size w0 w'))
  case atStart=>exact⟨(l0),(a1),(0),qB37,qB37,H',⟨Nat.le_refl _⟩,⟨by (with_reducible repeat(first|apply Kd.R_alloc|apply Kd.R_drewN|apply Kd.R_drew));exact HO0.1⟩,⟨by repeat(first|(with_reducible first|exact HK.1|apply Kept.alloc|apply Kept.drewN|apply Kept.drew)|exact HK.1)⟩,⟨by repeat(first|(with_reducible first|exact HB.1|apply below_alloc|apply pw_below_drewN|apply below_drew1)|exact HB.1)⟩⟩
  case round=>
    clear H';try clear p2
    obtain⟨x0_1,x1_1,x5_1,rfl,rfl,HA,HK1,HO_0,HK,HB⟩:=hrel;cases gk with
    |zero=>exact absurd HA.1 (by simp [laws_markInt64S.l0])
    |succ k1=>
      have H:=HA.1;clear HA;simp only [laws_markInt64S.l0] at H
      by_cases c3:x5_1<(x0_1.length:Int)
      · rw [if_pos c3] at H
        have c3b0:decide (x5_1<(x0_1.length:Int))=true:=decide_eq_true c3;clear c3
        by_cases c4:0≤x5_1
        · rw [if_pos c4] at H
          have c4b0:decide (0≤x5_1)=true:=decide_eq_true c4;clear c4;obtain⟨y216,hy216⟩:∃y_:List Int,y_=(x0_1.set (x5_1:Int).toNat x1_1):=⟨_,rfl⟩
          replace H:(laws_markInt64S.l0 k1 y216 (wrap64 (x1_1+1)) (wrap64 (x5_1+1)))=some (r1,r2):=by first|(rw [hy216];with_reducible exact H)|(have H2_:=(Option.bind_some _ _).symm.trans H;rw [hy216];with_reducible exact H2_)|(have H2_:=(Option.bind_some _ _).symm.trans H;with_reducible exact H2_)|with_reducible exact H|(rw [hy216];exact H)|exact H
          have Ny216:=qAm hy216;clear hy216;have H':=qAm H;clear H;obtain⟨Ao6,co6,eo6⟩:=Kd.R_slice HO_0.1;subst eo6;have p5:0≤(x5_1:Int):=of_decide_eq_true qB36;have q5:(x5_1:Int)<((x0_1.length:Int):Int):=of_decide_eq_true qB36;obtain⟨go5,co5,eo5,gb5,gl5,cl5,HG5⟩:=Kd.R_form HO_0.1 (by omega)
          (first|cases eo5|(injection eo5 with ea_ en_ ec_;(first|subst ea_|(injection ea_ with ea_;subst ea_));subst ec_;clear en_))
          have GB5:=qAm gb5;have GG5:=qAm HG5;clear gb5 gl5 HG5;have HMgo5:=qAm (show(P0_ go5∨w.heap.size≤go5) from (HO_0.1.1 _ rfl));obtain⟨hx5_0,hf5_0⟩:=Kd.R_celln 0 HO_0.1 (x5_1:Int) p5 q5;replace p5:=eq_true p5;replace q5:=eq_true q5;have HP7:=Kd.R_putg HO_0.1 (x5_1:Int) x1_1;go_wp2_with (first|((with_reducible refine gate_store (t:=2) (p:=15) rfl ?_);refine store_event (t:=2) (p:=15) (v:=?vo_w8) (w1:=(wr.setCell ⟨go5,(x5_1:Int).toNat,none⟩ (.int .i64 x1_1))) ?hg ?ho ?hn ?hr ?_;(case ho=>rfl);(case hg=>rfl);(case hn=>rfl);(case hr=>first|(go_simp;done)|(go_simp;rfl));intro w8 hw;have hg:wr.grownBy w8 (some go5):=(by rw [hw];exact HP7.2);have hp_:Kd.R (Kd.int .i64) 2 w8 w0.heap.size (fun k_=>(P0_ k_∨w.heap.size≤k_)) (.slice (some ⟨go5,0,none⟩) x0_1.length co6) y216:=(by rw [hw,Ny216.1];exact HP7.1);clear HP7;have n0_:=qAm (hp_);have n1_:=qAm ((by rw [hw];exact below_set (HB.1) GB5.1:Below w0.heap.size w0 w8));have n2_:=qAm (Kept.of_grown (S:=(fun k_=>P0_ k_)) hg (by repeat(first|(with_reducible first|exact HK.1|apply Kept.alloc|apply Kept.drewN|apply Kept.drew)|exact HK.1)) (fun k_ e_=>(HO_0.1.1 k_ e_)));clear HO_0;clear HB;clear HK;have HO_0:=n0_;have HB:=n1_;have HK:=n2_;clear n0_ n1_ n2_;clear hg hw hp_))
          (first|go_roundg k1|((try simp only [add_plain] at *);go_roundg k1))
          case measure=>have:=HK1.1;omega
          case rel=>exact⟨(y216),(wrap64 (x1_1+1)),(wrap64 (x5_1+1)),qB37,qB37,H',⟨by have:=HK1.1;omega⟩,⟨by (with_reducible repeat(first|apply Kd.R_alloc|apply Kd.R_drewN|apply Kd.R_drew));exact HO_0.1⟩,⟨by repeat(first|(with_reducible first|exact HK.1|apply Kept.alloc|apply Kept.drewN|apply Kept.drew)|exact HK.1)⟩,⟨by repeat(first|(with_reducible first|exact HB.1|apply below_alloc|apply pw_below_drewN|apply below_drew1)|exact HB.1)⟩⟩
        · rw [if_neg c4] at H
          exact absurd H (by simp)
      · rw [if_neg c3] at H
        have c3b0:decide (x5_1<(x0_1.length:Int))=false:=decide_eq_false c3;clear c3;simp only [Option.some.injEq,Prod.mk.injEq] at H;obtain⟨rfl,rfl⟩:=H;obtain⟨Ao9,co9,eo9⟩:=Kd.R_slice HO_0.1;subst eo9;go_wp2;go_ret;exact⟨by first|rfl|(simp [errW_none,errW_some] <;> rfl)|(simp [*,errW_none,errW_some] <;> rfl),by (with_reducible repeat(first|apply Kd.R_alloc|apply Kd.R_drewN|apply Kd.R_drew));exact HO_0.1,by repeat(first|(with_reducible first|exact HB.1|apply below_alloc|apply pw_below_drewN|apply below_drew1)|exact HB.1),by repeat(first|(with_reducible first|exact HK.1|apply Kept.alloc|apply Kept.drewN|apply Kept.drew)|exact HK.1)⟩

/-! ### laws_markCycloS: function 21 -/
-- HAND
def nMark:List Int→Int→Int×List Int
  |[],a=>(a,[])
  |_::l,a=>((nMark l (wrap64 (a+1))).1,a::(nMark l (wrap64 (a+1))).2)
def nMarkS:List (List Int)→Int→Int×List (List Int)
  |[],a=>(a,[])
  |x::l,a=>((nMarkS l (nMark x a).1).1,(nMark x a).2::(nMarkS l (nMark x a).1).2)
theorem nMark_l0:∀(rest done:List Int) (a:Int),done.length+rest.length≤9223372036854775806→∃k,laws_markInt64S.l0 k (done ++ rest) a (done.length:Int)=some ((nMark rest a).1,done ++ (nMark rest a).2)
  |[],done,a,h=>⟨1,by simp only [laws_markInt64S.l0];rw [if_neg (by simp)];simp [nMark]⟩
  |x::rest,done,a,h=>by
    simp only [List.length_cons] at h;obtain⟨k,hk⟩:=nMark_l0 rest (done ++ [a]) (wrap64 (a+1)) (by simp;omega);refine⟨k+1,?_⟩;simp only [laws_markInt64S.l0];rw [if_pos (by simp;omega),if_pos (by omega)];have e1:(done ++ x::rest).set ((done.length:Nat):Int).toNat a=done ++ [a] ++ rest:=by simp
    have e2:wrap64 ((done.length:Int)+1)=((done ++ [a]).length:Int):=by rw [wrap64];simp;omega
    rw [e1,e2,hk]
    simp [nMark]
theorem nMark_f (l:List Int) (a:Int) (h:l.length≤9223372036854775806):∃k,laws_markInt64S.f k l a=some (nMark l a):=by
  obtain⟨k,hk⟩:=nMark_l0 l [] a (by simpa using h);exact⟨k,by simpa [laws_markInt64S.f] using hk⟩

def nMarkC:List S26→Int→Int×List S26
  |[],a=>(a,[])
  |x::l,a=>((nMarkC l (nMark x.f1 (wrap64 (a+1))).1).1,⟨a,(nMark x.f1 (wrap64 (a+1))).2⟩::(nMarkC l (nMark x.f1 (wrap64 (a+1))).1).2)
set_option maxHeartbeats 4000000 in
theorem nMarkC_calls (w0 w:World) (ok:Nat→Prop) (u:Value) (l:List S26) (a:Int) (hB:Below w0.heap.size w0 w) (ho:Kd.S k26 26 w w0.heap.size ok u l) (hl:l.length≤1000000) (hr:∀x∈l,x.f1.length≤1000000):
    Calls Try.prog 21 #[u,.int .i64 a] w fun e w'=>e=.returned (.int .i64 (nMarkC l a).1)∧Kd.S k26 26 w' w0.heap.size ok u (nMarkC l a).2∧Below w0.heap.size w0 w'∧Kept w w' ok:=by
  have HO:=qAm ho;have HB:=qAm hB;have HL:=qAm hl;have HR:=qAm hr;obtain⟨A,c,rfl⟩:=Kd.S_slice ho;clear ho hB hl hr;go_enter Try.func21,Try.ntmps21;go_wp2;go_loopg [1,5] (l.length+1) (fun kq v1 v5 w'=>∃(done rest:List S26) (b:Int),v1=.int .i64 b∧v5=.int .i64 (done.length:Int)∧Aside0 (kq=rest.length+1)∧Aside0 (done.length+rest.length=l.length)∧Aside0 (∀x∈rest,x.f1.length≤1000000)∧Aside0 (nMarkC l a=((nMarkC rest b).1,done ++ (nMarkC rest b).2))∧Aside0 (Kd.S k26 26 w' w0.heap.size ok (.slice A l.length c) (done ++ rest))∧Aside0 (Below w0.heap.size w0 w')∧Aside0 (Kept w w' ok))
  case atStart=>exact⟨[],l,a,rfl,rfl,⟨rfl⟩,⟨by simp⟩,⟨HR.1⟩,⟨by simp⟩,⟨by simpa using HO.1⟩,⟨HB.1⟩,⟨Kept.refl _ _⟩⟩
  case round=>
    obtain⟨done,rest,b,rfl,rfl,HK,HN,HR2,HE,HS,HB2,HP⟩:=hrel;cases rest with
    |nil=>
      have hd:done.length=l.length:=by have:=HN.1;simpa using this
      have c0:decide ((done.length:Int)<(l.length:Int))=false:=by rw [hd];simp
      go_wp2;go_ret;have e:=HE.1;simp only [nMarkC,List.append_nil] at e;rw [e];exact⟨rfl,by simpa using HS.1,HB2.1,HP.1⟩
    |cons x rest=>
      have hn:done.length+(rest.length+1)=l.length:=by have:=HN.1;simpa using this
      have c0:decide ((done.length:Int)<(l.length:Int))=true:=by simp;omega
      have hlen:(done ++ x::rest).length=l.length:=by simp;omega
      obtain⟨g,cap,e1,hg0,hg1,_⟩:=Kd.S_form HS.1 (by simp;omega);rw [hlen] at e1;injection e1 with eA _ ec
      subst eA ec;have hS:=HS.1
      -- the number of the element
      obtain⟨oki,cs,hcl,hM,hcc,hfz,hoki,hH⟩:=Kd.S_elem hS z26 (done.length:Int) (by omega) (by omega);have hx:(done ++ x::rest).getD (done.length:Int).toNat z26=x:=by simp
      rw [hx] at hM;obtain⟨v1,rfl,hv1⟩:=k26_openM hM;have hst:=Kd.S_seg (okg:=fun _=>False) (okp:=oki) (x':=(⟨b,x.f1⟩:S26)) (seg:=[.int .i64 b]) (j:=0) (Kd.H_mono hH (fun k hk=>⟨hk,fun h=>h⟩)) (by omega) (by omega) (by show 0+1≤2;omega) (by exact⟨[.int .i64 b],[v1],rfl,rfl,⟨v1,rfl,hv1⟩⟩) (fun k hk=>.inl hk) (fun k hk=>hk.elim);have e0:(done ++ x::rest).set (done.length:Int).toNat (⟨b,x.f1⟩:S26)=done ++ (⟨b,x.f1⟩:S26)::rest:=by simp
      have hsz:k26.sz=2:=rfl;rw [e0,hsz,Int.toNat_natCast,Nat.add_zero] at hst;have hcell:=hcc 0 _ rfl;rw [hsz,Int.toNat_natCast,Nat.add_zero] at hcell;have hfr:=hfz 0;rw [hsz,Int.toNat_natCast,Nat.add_zero] at hfr;have hone:wr.setCells g (done.length*2) [.int .i64 b]=wr.setCell ⟨g,done.length*2,none⟩ (.int .i64 b):=by simp [World.setCells]
      rw [hone] at hst;have hcell2:wr.cell? ((⟨g,0,none⟩:Addr).add (done.length*2))=some (.int .i64 x.f0):=by rw [add_plain];simpa using hcell
      have HST:=qAm hst;have p5:(0:Int)≤(done.length:Int):=by omega
      have q5:(done.length:Int)<(l.length:Int):=by omega
      clear hst hM hv1 hcc hH hS hone hfz hoki;have hlen8:(done ++ (⟨b,x.f1⟩:S26)::rest).length=l.length:=by simp;omega
      have hx8:(done ++ (⟨b,x.f1⟩:S26)::rest).getD (done.length:Int).toNat z26=⟨b,x.f1⟩:=by simp
      obtain⟨k1,hk1⟩:=nMark_f x.f1 (wrap64 (b+1)) (by have:=HR2.1 x (by simp);omega);have HK1:=qAm hk1;have HG0:=qAm hg0;clear hk1 hg0 hcl;go_wp2_with (first
        |((with_reducible refine gate_store (t:=2) (p:=16) rfl ?_);refine store_event (t:=2) (p:=16) (v:=?vo_w8) (w1:=(wr.setCell ⟨g,done.length*2,none⟩ (.int .i64 b))) ?hg ?ho ?hn ?hr ?_;(case ho=>rfl);(case hg=>rfl);(case hn=>rfl);(case hr=>first|(go_simp;done)|(go_simp;rfl));intro w8 hw;have hs8:Kd.S k26 26 w8 w0.heap.size ok (.slice (some ⟨g,0,none⟩) l.length c) (done ++ (⟨b,x.f1⟩:S26)::rest):=(by rw [hw];exact HST.1.1);have hg8:wr.grownBy w8 (some g):=(by rw [hw];exact HST.1.2);have HB8:=qAm ((by rw [hw];exact below_set HB2.1 HG0.1:Below w0.heap.size w0 w8));have HP8:=qAm (Kept.of_grown (S:=ok) hg8 HP.1 (fun k e=>.inl (by injection e with e;subst e;exact(Kd.S_R HS.1).1 _ rfl)));obtain⟨oki2,cs2,hcl2,hM2,hcc2,hoki2,hH2⟩:=Kd.S_lend hs8 z26 (done.length:Int) p5 q5;rw [hx8] at hM2;obtain⟨v2,rfl,hv2⟩:=k26_openM hM2;have hc8:=hcc2 1 _ rfl;rw [hsz,Int.toNat_natCast] at hc8;obtain⟨A1,c1,rfl⟩:=Kd.R_slice hv2;have HV:=qAm hv2;have HH:=qAm hH2;have HO2:=qAm hoki2;clear hv2 hH2 hoki2 hM2 hcc2 hcl2 hs8 hg8 hw)
        |(go_at_call 33;refine(laws_markInt64S.calls k1 oki2 (.slice A1 x.f1.length c1) x.f1 (wrap64 (b+1)) (nMark x.f1 (wrap64 (b+1))).1 (nMark x.f1 (wrap64 (b+1))).2 w0 _ HB8.1 HV.1 HK1.1).mono ?_;rintro e w' ⟨rfl,h1_,h2_,h3_⟩;have HV2:=qAm h1_;have HB3:=qAm h2_;have HP3:=qAm h3_;clear h1_ h2_ h3_))
      go_roundg (gk - 1)
      case measure=>have:=HK.1;simp only [List.length_cons] at this;omega
      case rel=>
        have hH2:=Kd.H_step HH.1 (fun k hk hn hlt=>HP3.1.2 k hlt hn);have hS2:=Kd.H_back hH2 (x':=(⟨b,(nMark x.f1 (wrap64 (b+1))).2⟩:S26)) (okp:=oki2) ⟨[.int .i64 b],[.slice A1 x.f1.length c1],rfl,rfl,⟨_,rfl,Kd.R_mono (Kd.R_tight rfl HV2.1) (fun k hk=>HV.1.1 k hk.symm)⟩⟩ (fun k hk=>hk);have e2:(done ++ (⟨b,x.f1⟩:S26)::rest).set (done.length:Int).toNat (⟨b,(nMark x.f1 (wrap64 (b+1))).2⟩:S26)=(done ++ [(⟨b,(nMark x.f1 (wrap64 (b+1))).2⟩:S26)]) ++ rest:=by simp
        rw [e2] at hS2;refine⟨done ++ [(⟨b,(nMark x.f1 (wrap64 (b+1))).2⟩:S26)],rest,(nMark x.f1 (wrap64 (b+1))).1,rfl,by rw [wrap64];simp;have:=HL.1;omega,⟨by have:=HK.1;simp only [List.length_cons] at this;omega⟩,⟨by simp;omega⟩,⟨fun y hy=>HR2.1 y (List.mem_cons_of_mem _ hy)⟩,⟨by rw [HE.1];simp [nMarkC]⟩,⟨hS2⟩,⟨HB3.1⟩,⟨?_⟩⟩;exact HP8.1.then_ HP3.1 (fun k hk=>.inl (HO2.1 k hk).1)
def laws_markCycloS.f (l0:List (S26)) (a1:Int):Option (Int):=if l0.length≤1000000∧l0.all (fun x=>decide (x.f1.length≤1000000)) then some (nMarkC l0 a1).1 else none

/-! ### laws_heldInt64S: function 34 -/
def laws_heldInt64S.l0:Nat→List Int→Int→Int→Option (Int)
  |0,_,_,_=>none
  |k+1,x0,x1,x5=>if x5<(x0.length:Int) then (if 0≤x5 then (if (rd x0 x5)=x1 then (laws_heldInt64S.l0 k x0 (wrap64 (x1+1)) (wrap64 (x5+1))) else (some (-1))) else (none)) else (some x1)
def laws_heldInt64S.f (k:Nat) (l0:List Int) (a1:Int):Option (Int):=laws_heldInt64S.l0 k l0 a1 0
theorem laws_heldInt64S.mono_l:∀k,(∀y0 y1 y2,LeO (laws_heldInt64S.l0 k y0 y1 y2) (laws_heldInt64S.l0 (k+1) y0 y1 y2))
  |0=>fun _ _ _ r h=>by simp [laws_heldInt64S.l0] at h
  |k+1=>by
    have ih0:=laws_heldInt64S.mono_l k
    · intro y0 y1 y2
      unfold laws_heldInt64S.l0;repeat' first
      |(with_reducible exact ih0 _ _ _)
      |(with_reducible exact LeO.refl _)
      |(with_reducible exact LeO.none _)
      |(with_reducible refine LeO.ite ?_ ?_)
      |(with_reducible refine LeO.bind ?_ (fun _=>?_))
      |exact ih0 _ _ _
      |exact LeO.none _
      |refine LeO.ite ?_ ?_
      |refine LeO.bind ?_ (fun _=>?_)
theorem laws_heldInt64S.mono:∀a0 a1 k,LeO (laws_heldInt64S.f k a0 a1) (laws_heldInt64S.f (k+1) a0 a1):=by
  intro a0 a1 k;have ih0:=laws_heldInt64S.mono_l k;unfold laws_heldInt64S.f;repeat' first
      |(with_reducible exact ih0 _ _ _)
      |(with_reducible exact LeO.refl _)
      |(with_reducible exact LeO.none _)
      |(with_reducible refine LeO.ite ?_ ?_)
      |(with_reducible refine LeO.bind ?_ (fun _=>?_))
      |exact ih0 _ _ _
      |exact LeO.none _
      |refine LeO.ite ?_ ?_
      |refine LeO.bind ?_ (fun _=>?_)
set_option maxHeartbeats 8000000 in
set_option maxRecDepth 100000 in
theorem laws_heldInt64S.calls (k:Nat) (A0:Option Addr) (c0:Nat) (l0:List Int) (a1:Int) (r:Int) (w:World) (hr0:Kd.C (Kd.int .i64) w A0 l0.length l0) (hc0:l0.length≤c0) (h:laws_heldInt64S.f k l0 a1=some r):
    Calls Try.prog 34 #[.slice A0 l0.length c0,.int .i64 a1] w fun e w'=>e=.returned (.int .i64 r)∧Drawn0 w w':=by
  have HR0:=qAm hr0;have HC0:=qAm hc0;clear hr0 hc0;have H:(laws_heldInt64S.l0 k l0 a1 0)=some r:=h;clear h;have H':=qAm H;clear H;go_enter Try.func34,Try.ntmps34;go_wp2;try simp only [Act.put,qSa,qSc,qSb]
  go_loopg [1,5] k (fun kq v1 v5 w'=>∃(x1_1:Int) (x5_1:Int),v1=.int .i64 x1_1∧v5=.int .i64 x5_1∧Aside0 (laws_heldInt64S.l0 kq l0 x1_1 x5_1=some r)∧Aside0 (kq≤k)∧Drawn0 w w')
  case atStart=>exact⟨(a1),(0),qB37,qB37,H',⟨Nat.le_refl _⟩,by repeat(first|exact Drawn0.refl _|apply Drawn0.step)⟩
  case round=>
    clear H';try clear p2
    obtain⟨x1_1,x5_1,rfl,rfl,HA,HK1,⟨m1,rfl⟩⟩:=hrel;cases gk with
    |zero=>exact absurd HA.1 (by simp [laws_heldInt64S.l0])
    |succ k1=>
      have H:=HA.1;clear HA;simp only [laws_heldInt64S.l0] at H
      by_cases c3:x5_1<(l0.length:Int)
      · rw [if_pos c3] at H
        have c3b0:decide (x5_1<(l0.length:Int))=true:=decide_eq_true c3;clear c3
        by_cases c4:0≤x5_1
        · rw [if_pos c4] at H
          have c4b0:decide (0≤x5_1)=true:=decide_eq_true c4;clear c4
          by_cases c5:(rd l0 x5_1)=x1_1
          · rw [if_pos c5] at H
            have c5b0:((rd l0 x5_1)==x1_1)=true:=beq_iff_eq.mpr c5;have c5b1:((rd l0 x5_1) !=x1_1)=false:=bne_eq_false_iff_eq.mpr c5;clear c5;have H':=qAm H;clear H;have p217:0≤(x5_1:Int):=of_decide_eq_true qB36;have q217:x5_1<(l0.length:Int):=of_decide_eq_true qB36;obtain⟨ad217,e217,hx217_0⟩:=Kd.at_int HR0.1 x5_1 p217 q217;cases e217
            replace p217:=eq_true p217;replace q217:=eq_true q217;go_wp2
            (first|go_roundg k1|((try simp only [add_plain] at *);go_roundg k1))
            case measure=>have:=HK1.1;omega
            case rel=>exact⟨(wrap64 (x1_1+1)),(wrap64 (x5_1+1)),qB37,qB37,H',⟨by have:=HK1.1;omega⟩,by repeat(first|exact Drawn0.refl _|apply Drawn0.step)⟩
          · rw [if_neg c5] at H
            have c5b0:((rd l0 x5_1)==x1_1)=false:=beq_eq_false_iff_ne.mpr c5;have c5b1:((rd l0 x5_1) !=x1_1)=true:=bne_iff_ne.mpr c5;obtain rfl:=Option.some.inj H;have p217:0≤(x5_1:Int):=of_decide_eq_true qB36;have q217:x5_1<(l0.length:Int):=of_decide_eq_true qB36;obtain⟨ad217,e217,hx217_0⟩:=Kd.at_int HR0.1 x5_1 p217 q217;cases e217
            replace p217:=eq_true p217;replace q217:=eq_true q217;go_wp2;go_ret;exact⟨by first|rfl|(simp;done)|(simp [*];done),by repeat(first|exact Drawn0.refl _|apply Drawn0.step)⟩
        · rw [if_neg c4] at H
          exact absurd H (by simp)
      · rw [if_neg c3] at H
        have c3b0:decide (x5_1<(l0.length:Int))=false:=decide_eq_false c3;clear c3;obtain rfl:=Option.some.inj H;go_wp2;go_ret;exact⟨by first|rfl|(simp;done)|(simp [*];done),by repeat(first|exact Drawn0.refl _|apply Drawn0.step)⟩

end Go.Proofs.Ytejpliodhnglbaa.PFnExactPrimesOfNorm
