/- The functions that the law reaches, as plain functions, each with the proof that the program comes to it; no condition. Written by a program of this session (wip/mp.py) over the printing of the kit; what is marked HAND is told by hand. -/
import Derived.Test.YthljmbobccaalaaPFnExactIsUnitx0
import Derived.Test.YthljmbobccaalaaPFnExactIsUnitx2
import Derived.Test.YthljmbobccaalaaPFnExactIsUnitx8
namespace Go.Proofs.Ythljmbobccaalaa.PFnExactIsUnit
open Go.RowKit Go.Proofs.YthljmbobccaalaaW.PrintWords Go.Proofs.YthljmbobccaalaaW.PrintLast Go.Proofs.YthljmbobccaalaaW.PrintMore
attribute [local go_sem] max2_int min2_int max_two min_two max_three min_three max_four min_four   -- for this text's walks alone
set_option linter.unusedVariables false
set_option linter.unusedSimpArgs false

/-! ### spec_NormOf: function 22 -/
def spec_NormOf.f (k:Nat) (a0_0:Int) (l0_1:List Int):Option (Int×Int):=(spec_l01Is.f k a0_0 l0_1).bind fun t295=>(if t295=true then ((spec_l02Product.f k a0_0 l0_1 0).bind fun bt296=>(if bt296.2.2=true then (if 0<(bt296.2.1.length:Int) then (some (rd bt296.2.1 0,0)) else (none)) else (some (0,3)))) else (some (0,1)))
theorem spec_NormOf.mono:∀a0 a1 k,LeO (spec_NormOf.f k a0 a1) (spec_NormOf.f (k+1) a0 a1):=by
 intro a0 a1 k;unfold spec_NormOf.f;repeat' first
   |(with_reducible exact spec_l01Is.mono _ _ _)
   |(with_reducible exact spec_l02Product.mono _ _ _ _)
   |(with_reducible exact LeO.refl _)
   |(with_reducible exact LeO.none _)
   |(with_reducible refine LeO.ite ?_ ?_)
   |(with_reducible refine LeO.bind ?_ (fun _=>?_))
   |exact spec_l01Is.mono _ _ _
   |exact spec_l02Product.mono _ _ _ _
   |exact LeO.none _
   |refine LeO.ite ?_ ?_
   |refine LeO.bind ?_ (fun _=>?_)
set_option maxHeartbeats 8000000 in
set_option maxRecDepth 100000 in
theorem spec_NormOf.calls (k:Nat) (a0_0:Int) (A0_1:Option Addr) (c0_1:Nat) (l0_1:List Int) (r1:Int) (r2:Int) (w:World) (hr0_1:Kd.C (Kd.int .i64) w A0_1 l0_1.length l0_1) (hc0_1:l0_1.length≤c0_1) (h:spec_NormOf.f k a0_0 l0_1=some (r1,r2)):
  Calls Try.prog 22 #[.agg #[.int .i64 a0_0,.slice A0_1 l0_1.length c0_1]] w fun e w'=>e=.returned (.tuple #[.int .i64 r1,.int .i64 r2])∧Below w.heap.size w w':=by
 have hu26:=Try.underlying26;have HR0_1:=qAm hr0_1;have HC0_1:=qAm hc0_1;clear hr0_1 hc0_1;have HB:=qAm (Below.refl w.heap.size w);have H:((spec_l01Is.f k a0_0 l0_1).bind fun t295=>(if t295=true then ((spec_l02Product.f k a0_0 l0_1 0).bind fun bt296=>(if bt296.2.2=true then (if 0<(bt296.2.1.length:Int) then (some (rd bt296.2.1 0,0)) else (none)) else (some (0,3)))) else (some (0,1))))=some (r1,r2):=h;clear h;replace H:=qOb H;obtain⟨t295,A20,H⟩:=H;replace H:(if t295=true then ((spec_l02Product.f k a0_0 l0_1 0).bind fun bt296=>(if bt296.2.2=true then (if 0<(bt296.2.1.length:Int) then (some (rd bt296.2.1 0,0)) else (none)) else (some (0,3)))) else (some (0,1)))=some (r1,r2):=H;have A2:=qAm A20;clear A20
 by_cases c3:t295=true
 ·subst c3;have H1:((spec_l02Product.f k a0_0 l0_1 0).bind fun bt296=>(if bt296.2.2=true then (if 0<(bt296.2.1.length:Int) then (some (rd bt296.2.1 0,0)) else (none)) else (some (0,3))))=some (r1,r2):=by rw [if_pos rfl] at H;exact H
  clear H;have H:=H1;clear H1;replace H:=qOb H;obtain⟨⟨t296,t297,t300⟩,A40,H⟩:=H;replace H:(if t300=true then (if 0<(t297.length:Int) then (some (rd t297 0,0)) else (none)) else (some (0,3)))=some (r1,r2):=H;have A4:=qAm A40;clear A40
  by_cases c5:t300=true
  ·subst c5;have H1:(if 0<(t297.length:Int) then (some (rd t297 0,0)) else (none))=some (r1,r2):=by rw [if_pos rfl] at H;exact H
   clear H;have H:=H1;clear H1
   by_cases c6:0<(t297.length:Int)
   ·rw [if_pos c6] at H;have c6b0:decide (0<(t297.length:Int))=true:=decide_eq_true c6;have c6b1:decide (0<t297.length)=true:=decide_eq_true (by omega);clear c6;simp only [Option.some.injEq,Prod.mk.injEq] at H;obtain⟨rfl,rfl⟩:=H;go_enter Try.func22,Try.ntmps22;go_wp2_with (first|((with_reducible refine gate_dst (N:=1) rfl ?_);refine box_event ?hg (N:=1) ?hd (cs:=#[.int .i64 a0_0,.slice A0_1 l0_1.length c0_1]) (t:=26) ?hr ?_;(case hd=>rfl);(case hg=>rfl);(case hr=>first|(go_simp;done)|(go_simp;rfl));intro gb294 hg w7 hbox hb;have n0_:=qAm (below_step qB62 hb);have n1_:=qAm (hbox);have n2_:=qAm ((by rw [hg];exact(below_size qB62):w.heap.size≤gb294));have n3_:=qAm ((by rw [hg];exact(below_size qB62):w.heap.size≤gb294));clear HB;have HB:=n0_;have BK294:=n1_;have GW294:=n2_;have GE294:=n3_;clear n0_ n1_ n2_ n3_;clear hb hbox hg;have hcz8_0:w7.cell? ⟨gb294,0,none⟩=some (.int .i64 a0_0):=(blk_cell BK294.1 0).trans rfl;have hcz8_1:w7.cell? ⟨gb294,1,none⟩=some (.slice A0_1 l0_1.length c0_1):=(blk_cell BK294.1 1).trans rfl;have hfz8_0:=blk_frozen BK294.1 0;have hfz8_1:=blk_frozen BK294.1 1)|((with_reducible refine gate_callee (f:=43) rfl ?_);refine goesL_ (some 7) rfl rfl Try.func43 (by kernel_rfl) rfl #[.agg #[.int .i64 a0_0,.slice A0_1 l0_1.length c0_1]] rfl qB60 ?_;(with_reducible refine(spec_l01Is.calls k a0_0 _ _ l0_1 true _ ?side1 ?side2 A2.1).mono ?_);(case side1=>repeat(first|exact(Kd.C_below HR0_1.1 HB.1)|(with_reducible refine Kd.C_alloc ?_ _)|(with_reducible refine Kd.C_drewN ?_ _)|(with_reducible refine Kd.C_drew ?_)));(case side2=>exact HC0_1.1);rintro e w9 ⟨rfl,hb⟩;refine⟨_,rfl,?_⟩;have n0_:=qAm (blk_below (g:=gb294) (o:=.cells #[.int .i64 a0_0,.slice A0_1 l0_1.length c0_1] 26 (0,0)) qB85 hb);have n1_:=qAm (below_step qB43 hb);clear BK294;clear HB;have BK294:=n0_;have HB:=n1_;clear n0_ n1_;(try clear hb);(try clear hb2);(try clear hk);(try clear hi);have hcz10_0:w9.cell? ⟨gb294,0,none⟩=some (.int .i64 a0_0):=(blk_cell BK294.1 0).trans rfl;have hcz10_1:w9.cell? ⟨gb294,1,none⟩=some (.slice A0_1 l0_1.length c0_1):=(blk_cell BK294.1 1).trans rfl;have hfz10_0:=blk_frozen BK294.1 0;have hfz10_1:=blk_frozen BK294.1 1)|((with_reducible refine gate_callee (f:=53) rfl ?_);refine goesL_ (some 11) rfl rfl Try.func53 (by kernel_rfl) rfl #[.agg #[.int .i64 a0_0,.slice A0_1 l0_1.length c0_1],.int .i64 0] rfl qB60 ?_;(with_reducible refine(spec_l02Product.calls k a0_0 _ _ l0_1 0 t296 t297 true _ ?side1 ?side2 A4.1).mono ?_);(case side1=>repeat(first|exact(Kd.C_below HR0_1.1 HB.1)|(with_reducible refine Kd.C_alloc ?_ _)|(with_reducible refine Kd.C_drewN ?_ _)|(with_reducible refine Kd.C_drew ?_)));(case side2=>exact HC0_1.1);rintro e w11 ⟨v298,rfl,ho0,hb⟩;refine⟨_,rfl,?_⟩;have n0_:=qAm (Kd.R_lower ho0 (below_size qB43));have n1_:=qAm (blk_below (g:=gb294) (o:=.cells #[.int .i64 a0_0,.slice A0_1 l0_1.length c0_1] 26 (0,0)) qB85 hb);have n2_:=qAm (below_step qB43 hb);clear BK294;clear HB;have HO299:=n0_;have BK294:=n1_;have HB:=n2_;clear n0_ n1_ n2_;(try clear hb);(try clear hb2);(try clear hk);(try clear hi);(try clear ho0))|((with_reducible refine gate_dst (N:=4) rfl ?_);refine box_event ?hg (N:=4) ?hd (cs:=#[.int .i64 0,.slice none 0 0]) (t:=26) ?hr ?_;(case hd=>rfl);(case hg=>rfl);(case hr=>first|(go_simp;done)|(go_simp;rfl));intro gb301 hg w12 hbox hb;have n0_:=qAm (Kd.R_below qB108 hb);have n1_:=qAm (blk_below (g:=gb294) (o:=.cells #[.int .i64 a0_0,.slice A0_1 l0_1.length c0_1] 26 (0,0)) qB85 hb);have n2_:=qAm (below_step qB43 hb);have n3_:=qAm (hbox);have n4_:=qAm ((by rw [hg];exact(below_size qB43):w.heap.size≤gb301));have n5_:=qAm ((by rw [hg];exact(below_size qB43):w.heap.size≤gb301));have n6_:=qAm ((by rw [hg];exact Nat.ne_of_lt (blk_lt (g:=gb294) (o:=.cells #[.int .i64 a0_0,.slice A0_1 l0_1.length c0_1] 26 (0,0)) qB85):gb294≠gb301));have n7_:=qAm ((by rw [hg];exact Nat.ne_of_gt (blk_lt (g:=gb294) (o:=.cells #[.int .i64 a0_0,.slice A0_1 l0_1.length c0_1] 26 (0,0)) qB85):gb301≠gb294));clear HO299;clear BK294;clear HB;have HO299:=n0_;have BK294:=n1_;have HB:=n2_;have BK301:=n3_;have GW301:=n4_;have GE301:=n5_;have NB294_301:=n6_;have NB301_294:=n7_;clear n0_ n1_ n2_ n3_ n4_ n5_ n6_ n7_;clear hb hbox hg;have hnb13:=NB301_294.1;have hnc13:=NB294_301.1;have hcz14_0:w12.cell? ⟨gb301,0,none⟩=some (.int .i64 0):=(blk_cell BK301.1 0).trans rfl;have hcz14_1:w12.cell? ⟨gb301,1,none⟩=some (.slice none 0 0):=(blk_cell BK301.1 1).trans rfl;have hfz14_0:=blk_frozen BK301.1 0;have hfz14_1:=blk_frozen BK301.1 1;obtain⟨Ao15,co15,eo15⟩:=Kd.R_slice HO299.1;subst eo15;have p302:0≤(0:Int):=(by omega);have q302:0<(t297.length:Int):=of_decide_eq_true qB126;obtain⟨ad302,e302,hx302_0⟩:=Kd.at_int (Kd.R_reads' HO299.1).2.2 0 p302 q302;cases e302;have qi302:(0<t297.length)=True:=eq_true (by omega);(try rw [show((0:Int)).toNat=0 from rfl] at hx302_0);(try rw [Addr.add_zero'] at hx302_0);have hn302_0:ad302.block≠gb301:=Kd.own_blk (Kd.R_ne HO299.1 BK301.1 (by decide));have hn302_1:ad302.block≠gb301:=Kd.own_blk (Kd.R_ne HO299.1 BK301.1 (by decide));replace hx302_0:=(cell_far (p:=⟨gb301,0,none⟩) (by first|(rw [add_block];exact hn302_0)|(show(Addr.add _ _).block≠_;rw [add_block];exact hn302_0)|exact hn302_0) (.int .i64 t296)).trans hx302_0;replace hx302_0:=(cell_far (p:=⟨gb301,1,none⟩) (by first|(rw [add_block];exact hn302_1)|(show(Addr.add _ _).block≠_;rw [add_block];exact hn302_1)|exact hn302_1) (.slice (some ad302) t297.length co15)).trans hx302_0;clear hn302_0;clear hn302_1;replace p302:=eq_true p302;replace q302:=eq_true q302));go_ret2;exact⟨by first|rfl|(simp [errW_none,errW_some] <;> rfl)|(simp [*,errW_none,errW_some] <;> rfl),by repeat(first|(with_reducible first|exact HB.1|apply below_alloc|apply pw_below_drewN|apply below_drew1|refine below_set ?_ GE294.1|refine below_set ?_ GE301.1)|exact HB.1)⟩
   ·rw [if_neg c6] at H;exact absurd H (by simp)
  ·replace c5:=Bool.eq_false_iff.mpr c5;subst c5;have H1:(some (0,3))=some (r1,r2):=by rw [if_neg (show ¬(false=true) by decide)] at H;exact H
   clear H;have H:=H1;clear H1;simp only [Option.some.injEq,Prod.mk.injEq] at H;obtain⟨rfl,rfl⟩:=H;go_enter Try.func22,Try.ntmps22;go_wp2_with (first|((with_reducible refine gate_dst (N:=1) rfl ?_);refine box_event ?hg (N:=1) ?hd (cs:=#[.int .i64 a0_0,.slice A0_1 l0_1.length c0_1]) (t:=26) ?hr ?_;(case hd=>rfl);(case hg=>rfl);(case hr=>first|(go_simp;done)|(go_simp;rfl));intro gb294 hg w16 hbox hb;have n0_:=qAm (below_step qB62 hb);have n1_:=qAm (hbox);have n2_:=qAm ((by rw [hg];exact(below_size qB62):w.heap.size≤gb294));have n3_:=qAm ((by rw [hg];exact(below_size qB62):w.heap.size≤gb294));clear HB;have HB:=n0_;have BK294:=n1_;have GW294:=n2_;have GE294:=n3_;clear n0_ n1_ n2_ n3_;clear hb hbox hg;have hcz17_0:w16.cell? ⟨gb294,0,none⟩=some (.int .i64 a0_0):=(blk_cell BK294.1 0).trans rfl;have hcz17_1:w16.cell? ⟨gb294,1,none⟩=some (.slice A0_1 l0_1.length c0_1):=(blk_cell BK294.1 1).trans rfl;have hfz17_0:=blk_frozen BK294.1 0;have hfz17_1:=blk_frozen BK294.1 1)|((with_reducible refine gate_callee (f:=43) rfl ?_);refine goesL_ (some 7) rfl rfl Try.func43 (by kernel_rfl) rfl #[.agg #[.int .i64 a0_0,.slice A0_1 l0_1.length c0_1]] rfl qB60 ?_;(with_reducible refine(spec_l01Is.calls k a0_0 _ _ l0_1 true _ ?side1 ?side2 A2.1).mono ?_);(case side1=>repeat(first|exact(Kd.C_below HR0_1.1 HB.1)|(with_reducible refine Kd.C_alloc ?_ _)|(with_reducible refine Kd.C_drewN ?_ _)|(with_reducible refine Kd.C_drew ?_)));(case side2=>exact HC0_1.1);rintro e w18 ⟨rfl,hb⟩;refine⟨_,rfl,?_⟩;have n0_:=qAm (blk_below (g:=gb294) (o:=.cells #[.int .i64 a0_0,.slice A0_1 l0_1.length c0_1] 26 (0,0)) qB85 hb);have n1_:=qAm (below_step qB43 hb);clear BK294;clear HB;have BK294:=n0_;have HB:=n1_;clear n0_ n1_;(try clear hb);(try clear hb2);(try clear hk);(try clear hi);have hcz19_0:w18.cell? ⟨gb294,0,none⟩=some (.int .i64 a0_0):=(blk_cell BK294.1 0).trans rfl;have hcz19_1:w18.cell? ⟨gb294,1,none⟩=some (.slice A0_1 l0_1.length c0_1):=(blk_cell BK294.1 1).trans rfl;have hfz19_0:=blk_frozen BK294.1 0;have hfz19_1:=blk_frozen BK294.1 1)|((with_reducible refine gate_callee (f:=53) rfl ?_);refine goesL_ (some 11) rfl rfl Try.func53 (by kernel_rfl) rfl #[.agg #[.int .i64 a0_0,.slice A0_1 l0_1.length c0_1],.int .i64 0] rfl qB60 ?_;(with_reducible refine(spec_l02Product.calls k a0_0 _ _ l0_1 0 t296 t297 false _ ?side1 ?side2 A4.1).mono ?_);(case side1=>repeat(first|exact(Kd.C_below HR0_1.1 HB.1)|(with_reducible refine Kd.C_alloc ?_ _)|(with_reducible refine Kd.C_drewN ?_ _)|(with_reducible refine Kd.C_drew ?_)));(case side2=>exact HC0_1.1);rintro e w20 ⟨v298,rfl,ho0,hb⟩;refine⟨_,rfl,?_⟩;have n0_:=qAm (Kd.R_lower ho0 (below_size qB43));have n1_:=qAm (blk_below (g:=gb294) (o:=.cells #[.int .i64 a0_0,.slice A0_1 l0_1.length c0_1] 26 (0,0)) qB85 hb);have n2_:=qAm (below_step qB43 hb);clear BK294;clear HB;have HO299:=n0_;have BK294:=n1_;have HB:=n2_;clear n0_ n1_ n2_;(try clear hb);(try clear hb2);(try clear hk);(try clear hi);(try clear ho0))|((with_reducible refine gate_dst (N:=4) rfl ?_);refine box_event ?hg (N:=4) ?hd (cs:=#[.int .i64 0,.slice none 0 0]) (t:=26) ?hr ?_;(case hd=>rfl);(case hg=>rfl);(case hr=>first|(go_simp;done)|(go_simp;rfl));intro gb301 hg w21 hbox hb;have n0_:=qAm (Kd.R_below qB108 hb);have n1_:=qAm (blk_below (g:=gb294) (o:=.cells #[.int .i64 a0_0,.slice A0_1 l0_1.length c0_1] 26 (0,0)) qB85 hb);have n2_:=qAm (below_step qB43 hb);have n3_:=qAm (hbox);have n4_:=qAm ((by rw [hg];exact(below_size qB43):w.heap.size≤gb301));have n5_:=qAm ((by rw [hg];exact(below_size qB43):w.heap.size≤gb301));have n6_:=qAm ((by rw [hg];exact Nat.ne_of_lt (blk_lt (g:=gb294) (o:=.cells #[.int .i64 a0_0,.slice A0_1 l0_1.length c0_1] 26 (0,0)) qB85):gb294≠gb301));have n7_:=qAm ((by rw [hg];exact Nat.ne_of_gt (blk_lt (g:=gb294) (o:=.cells #[.int .i64 a0_0,.slice A0_1 l0_1.length c0_1] 26 (0,0)) qB85):gb301≠gb294));clear HO299;clear BK294;clear HB;have HO299:=n0_;have BK294:=n1_;have HB:=n2_;have BK301:=n3_;have GW301:=n4_;have GE301:=n5_;have NB294_301:=n6_;have NB301_294:=n7_;clear n0_ n1_ n2_ n3_ n4_ n5_ n6_ n7_;clear hb hbox hg;have hnb22:=NB301_294.1;have hnc22:=NB294_301.1;have hcz23_0:w21.cell? ⟨gb301,0,none⟩=some (.int .i64 0):=(blk_cell BK301.1 0).trans rfl;have hcz23_1:w21.cell? ⟨gb301,1,none⟩=some (.slice none 0 0):=(blk_cell BK301.1 1).trans rfl;have hfz23_0:=blk_frozen BK301.1 0;have hfz23_1:=blk_frozen BK301.1 1;obtain⟨Ao24,co24,eo24⟩:=Kd.R_slice HO299.1;subst eo24));go_ret2;exact⟨by first|rfl|(simp [errW_none,errW_some] <;> rfl)|(simp [*,errW_none,errW_some] <;> rfl),by repeat(first|(with_reducible first|exact HB.1|apply below_alloc|apply pw_below_drewN|apply below_drew1|refine below_set ?_ GE294.1|refine below_set ?_ GE301.1)|exact HB.1)⟩
 ·replace c3:=Bool.eq_false_iff.mpr c3;subst c3;have H1:(some (0,1))=some (r1,r2):=by rw [if_neg (show ¬(false=true) by decide)] at H;exact H
  clear H;have H:=H1;clear H1;simp only [Option.some.injEq,Prod.mk.injEq] at H;obtain⟨rfl,rfl⟩:=H;go_enter Try.func22,Try.ntmps22;go_wp2_with (first|((with_reducible refine gate_dst (N:=1) rfl ?_);refine box_event ?hg (N:=1) ?hd (cs:=#[.int .i64 a0_0,.slice A0_1 l0_1.length c0_1]) (t:=26) ?hr ?_;(case hd=>rfl);(case hg=>rfl);(case hr=>first|(go_simp;done)|(go_simp;rfl));intro gb294 hg w25 hbox hb;have n0_:=qAm (below_step qB62 hb);have n1_:=qAm (hbox);have n2_:=qAm ((by rw [hg];exact(below_size qB62):w.heap.size≤gb294));have n3_:=qAm ((by rw [hg];exact(below_size qB62):w.heap.size≤gb294));clear HB;have HB:=n0_;have BK294:=n1_;have GW294:=n2_;have GE294:=n3_;clear n0_ n1_ n2_ n3_;clear hb hbox hg;have hcz26_0:w25.cell? ⟨gb294,0,none⟩=some (.int .i64 a0_0):=(blk_cell BK294.1 0).trans rfl;have hcz26_1:w25.cell? ⟨gb294,1,none⟩=some (.slice A0_1 l0_1.length c0_1):=(blk_cell BK294.1 1).trans rfl;have hfz26_0:=blk_frozen BK294.1 0;have hfz26_1:=blk_frozen BK294.1 1)|((with_reducible refine gate_callee (f:=43) rfl ?_);refine goesL_ (some 7) rfl rfl Try.func43 (by kernel_rfl) rfl #[.agg #[.int .i64 a0_0,.slice A0_1 l0_1.length c0_1]] rfl qB60 ?_;(with_reducible refine(spec_l01Is.calls k a0_0 _ _ l0_1 false _ ?side1 ?side2 A2.1).mono ?_);(case side1=>repeat(first|exact(Kd.C_below HR0_1.1 HB.1)|(with_reducible refine Kd.C_alloc ?_ _)|(with_reducible refine Kd.C_drewN ?_ _)|(with_reducible refine Kd.C_drew ?_)));(case side2=>exact HC0_1.1);rintro e w27 ⟨rfl,hb⟩;refine⟨_,rfl,?_⟩;have n0_:=qAm (blk_below (g:=gb294) (o:=.cells #[.int .i64 a0_0,.slice A0_1 l0_1.length c0_1] 26 (0,0)) qB85 hb);have n1_:=qAm (below_step qB43 hb);clear BK294;clear HB;have BK294:=n0_;have HB:=n1_;clear n0_ n1_;(try clear hb);(try clear hb2);(try clear hk);(try clear hi)));go_ret2;exact⟨by first|rfl|(simp [errW_none,errW_some] <;> rfl)|(simp [*,errW_none,errW_some] <;> rfl),by repeat(first|(with_reducible first|exact HB.1|apply below_alloc|apply pw_below_drewN|apply below_drew1|refine below_set ?_ GE294.1)|exact HB.1)⟩

/-! ### spec_IsUnit: function 24 -/
def spec_IsUnit.f (k:Nat) (a0_0:Int) (l0_1:List Int):Option (Bool×Int):=(spec_NormOf.f k a0_0 l0_1).bind fun bt304=>(if bt304.2=0 then (if bt304.1=1 then (some (true,0)) else (some ((bt304.1==(-1)),0))) else (some (false,bt304.2)))
theorem spec_IsUnit.mono:∀a0 a1 k,LeO (spec_IsUnit.f k a0 a1) (spec_IsUnit.f (k+1) a0 a1):=by
 intro a0 a1 k;unfold spec_IsUnit.f;repeat' first
   |(with_reducible exact spec_NormOf.mono _ _ _)
   |(with_reducible exact LeO.refl _)
   |(with_reducible exact LeO.none _)
   |(with_reducible refine LeO.ite ?_ ?_)
   |(with_reducible refine LeO.bind ?_ (fun _=>?_))
   |exact spec_NormOf.mono _ _ _
   |exact LeO.none _
   |refine LeO.ite ?_ ?_
   |refine LeO.bind ?_ (fun _=>?_)
set_option maxHeartbeats 8000000 in
set_option maxRecDepth 100000 in
theorem spec_IsUnit.calls (k:Nat) (a0_0:Int) (A0_1:Option Addr) (c0_1:Nat) (l0_1:List Int) (r1:Bool) (r2:Int) (w:World) (hr0_1:Kd.C (Kd.int .i64) w A0_1 l0_1.length l0_1) (hc0_1:l0_1.length≤c0_1) (h:spec_IsUnit.f k a0_0 l0_1=some (r1,r2)):
  Calls Try.prog 24 #[.agg #[.int .i64 a0_0,.slice A0_1 l0_1.length c0_1]] w fun e w'=>e=.returned (.tuple #[.bool r1,.int .i64 r2])∧Below w.heap.size w w':=by
 have hu26:=Try.underlying26;have HR0_1:=qAm hr0_1;have HC0_1:=qAm hc0_1;clear hr0_1 hc0_1;have HB:=qAm (Below.refl w.heap.size w);have H:((spec_NormOf.f k a0_0 l0_1).bind fun bt304=>(if bt304.2=0 then (if bt304.1=1 then (some (true,0)) else (some ((bt304.1==(-1)),0))) else (some (false,bt304.2))))=some (r1,r2):=h;clear h;replace H:=qOb H;obtain⟨⟨t304,t305⟩,A20,H⟩:=H;replace H:(if t305=0 then (if t304=1 then (some (true,0)) else (some ((t304==(-1)),0))) else (some (false,t305)))=some (r1,r2):=H;have A2:=qAm A20;clear A20
 by_cases c3:t305=0
 ·rw [if_pos c3] at H;have c3b0:(t305==0)=true:=beq_iff_eq.mpr c3;have c3b1:(t305 !=0)=false:=bne_eq_false_iff_eq.mpr c3;clear c3
  by_cases c4:t304=1
  ·rw [if_pos c4] at H;have c4b0:(t304==1)=true:=beq_iff_eq.mpr c4;have c4b1:(t304 !=1)=false:=bne_eq_false_iff_eq.mpr c4;clear c4;simp only [Option.some.injEq,Prod.mk.injEq] at H;obtain⟨rfl,rfl⟩:=H;go_enter Try.func24,Try.ntmps24;go_wp2_with (first|((with_reducible refine gate_dst (N:=1) rfl ?_);refine box_event ?hg (N:=1) ?hd (cs:=#[.int .i64 a0_0,.slice A0_1 l0_1.length c0_1]) (t:=26) ?hr ?_;(case hd=>rfl);(case hg=>rfl);(case hr=>first|(go_simp;done)|(go_simp;rfl));intro gb303 hg w5 hbox hb;have n0_:=qAm (below_step qB62 hb);have n1_:=qAm (hbox);have n2_:=qAm ((by rw [hg];exact(below_size qB62):w.heap.size≤gb303));have n3_:=qAm ((by rw [hg];exact(below_size qB62):w.heap.size≤gb303));clear HB;have HB:=n0_;have BK303:=n1_;have GW303:=n2_;have GE303:=n3_;clear n0_ n1_ n2_ n3_;clear hb hbox hg;have hcz6_0:w5.cell? ⟨gb303,0,none⟩=some (.int .i64 a0_0):=(blk_cell BK303.1 0).trans rfl;have hcz6_1:w5.cell? ⟨gb303,1,none⟩=some (.slice A0_1 l0_1.length c0_1):=(blk_cell BK303.1 1).trans rfl;have hfz6_0:=blk_frozen BK303.1 0;have hfz6_1:=blk_frozen BK303.1 1)|((with_reducible refine gate_callee (f:=22) rfl ?_);refine goesL_ (some 8) rfl rfl Try.func22 (by kernel_rfl) rfl #[.agg #[.int .i64 a0_0,.slice A0_1 l0_1.length c0_1]] rfl qB60 ?_;(with_reducible refine(spec_NormOf.calls k a0_0 _ _ l0_1 t304 t305 _ ?side1 ?side2 A2.1).mono ?_);(case side1=>repeat(first|exact(Kd.C_below HR0_1.1 HB.1)|(with_reducible refine Kd.C_alloc ?_ _)|(with_reducible refine Kd.C_drewN ?_ _)|(with_reducible refine Kd.C_drew ?_)));(case side2=>exact HC0_1.1);rintro e w7 ⟨rfl,hb⟩;refine⟨_,rfl,?_⟩;have n0_:=qAm (blk_below (g:=gb303) (o:=.cells #[.int .i64 a0_0,.slice A0_1 l0_1.length c0_1] 26 (0,0)) qB86 hb);have n1_:=qAm (below_step qB44 hb);clear BK303;clear HB;have BK303:=n0_;have HB:=n1_;clear n0_ n1_;(try clear hb);(try clear hb2);(try clear hk);(try clear hi)));go_ret2;exact⟨by first|rfl|(simp [errW_none,errW_some] <;> rfl)|(simp [*,errW_none,errW_some] <;> rfl),by repeat(first|(with_reducible first|exact HB.1|apply below_alloc|apply pw_below_drewN|apply below_drew1|refine below_set ?_ GE303.1)|exact HB.1)⟩
  ·rw [if_neg c4] at H;have c4b0:(t304==1)=false:=beq_eq_false_iff_ne.mpr c4;have c4b1:(t304 !=1)=true:=bne_iff_ne.mpr c4;simp only [Option.some.injEq,Prod.mk.injEq] at H;obtain⟨rfl,rfl⟩:=H;go_enter Try.func24,Try.ntmps24;go_wp2_with (first|((with_reducible refine gate_dst (N:=1) rfl ?_);refine box_event ?hg (N:=1) ?hd (cs:=#[.int .i64 a0_0,.slice A0_1 l0_1.length c0_1]) (t:=26) ?hr ?_;(case hd=>rfl);(case hg=>rfl);(case hr=>first|(go_simp;done)|(go_simp;rfl));intro gb303 hg w8 hbox hb;have n0_:=qAm (below_step qB62 hb);have n1_:=qAm (hbox);have n2_:=qAm ((by rw [hg];exact(below_size qB62):w.heap.size≤gb303));have n3_:=qAm ((by rw [hg];exact(below_size qB62):w.heap.size≤gb303));clear HB;have HB:=n0_;have BK303:=n1_;have GW303:=n2_;have GE303:=n3_;clear n0_ n1_ n2_ n3_;clear hb hbox hg;have hcz9_0:w8.cell? ⟨gb303,0,none⟩=some (.int .i64 a0_0):=(blk_cell BK303.1 0).trans rfl;have hcz9_1:w8.cell? ⟨gb303,1,none⟩=some (.slice A0_1 l0_1.length c0_1):=(blk_cell BK303.1 1).trans rfl;have hfz9_0:=blk_frozen BK303.1 0;have hfz9_1:=blk_frozen BK303.1 1)|((with_reducible refine gate_callee (f:=22) rfl ?_);refine goesL_ (some 8) rfl rfl Try.func22 (by kernel_rfl) rfl #[.agg #[.int .i64 a0_0,.slice A0_1 l0_1.length c0_1]] rfl qB60 ?_;(with_reducible refine(spec_NormOf.calls k a0_0 _ _ l0_1 t304 t305 _ ?side1 ?side2 A2.1).mono ?_);(case side1=>repeat(first|exact(Kd.C_below HR0_1.1 HB.1)|(with_reducible refine Kd.C_alloc ?_ _)|(with_reducible refine Kd.C_drewN ?_ _)|(with_reducible refine Kd.C_drew ?_)));(case side2=>exact HC0_1.1);rintro e w10 ⟨rfl,hb⟩;refine⟨_,rfl,?_⟩;have n0_:=qAm (blk_below (g:=gb303) (o:=.cells #[.int .i64 a0_0,.slice A0_1 l0_1.length c0_1] 26 (0,0)) qB86 hb);have n1_:=qAm (below_step qB44 hb);clear BK303;clear HB;have BK303:=n0_;have HB:=n1_;clear n0_ n1_;(try clear hb);(try clear hb2);(try clear hk);(try clear hi)));go_ret2;exact⟨by first|rfl|(simp [errW_none,errW_some] <;> rfl)|(simp [*,errW_none,errW_some] <;> rfl),by repeat(first|(with_reducible first|exact HB.1|apply below_alloc|apply pw_below_drewN|apply below_drew1|refine below_set ?_ GE303.1)|exact HB.1)⟩
 ·rw [if_neg c3] at H;have c3b0:(t305==0)=false:=beq_eq_false_iff_ne.mpr c3;have c3b1:(t305 !=0)=true:=bne_iff_ne.mpr c3;simp only [Option.some.injEq,Prod.mk.injEq] at H;obtain⟨rfl,rfl⟩:=H;go_enter Try.func24,Try.ntmps24;go_wp2_with (first|((with_reducible refine gate_dst (N:=1) rfl ?_);refine box_event ?hg (N:=1) ?hd (cs:=#[.int .i64 a0_0,.slice A0_1 l0_1.length c0_1]) (t:=26) ?hr ?_;(case hd=>rfl);(case hg=>rfl);(case hr=>first|(go_simp;done)|(go_simp;rfl));intro gb303 hg w11 hbox hb;have n0_:=qAm (below_step qB62 hb);have n1_:=qAm (hbox);have n2_:=qAm ((by rw [hg];exact(below_size qB62):w.heap.size≤gb303));have n3_:=qAm ((by rw [hg];exact(below_size qB62):w.heap.size≤gb303));clear HB;have HB:=n0_;have BK303:=n1_;have GW303:=n2_;have GE303:=n3_;clear n0_ n1_ n2_ n3_;clear hb hbox hg;have hcz12_0:w11.cell? ⟨gb303,0,none⟩=some (.int .i64 a0_0):=(blk_cell BK303.1 0).trans rfl;have hcz12_1:w11.cell? ⟨gb303,1,none⟩=some (.slice A0_1 l0_1.length c0_1):=(blk_cell BK303.1 1).trans rfl;have hfz12_0:=blk_frozen BK303.1 0;have hfz12_1:=blk_frozen BK303.1 1)|((with_reducible refine gate_callee (f:=22) rfl ?_);refine goesL_ (some 8) rfl rfl Try.func22 (by kernel_rfl) rfl #[.agg #[.int .i64 a0_0,.slice A0_1 l0_1.length c0_1]] rfl qB60 ?_;(with_reducible refine(spec_NormOf.calls k a0_0 _ _ l0_1 t304 t305 _ ?side1 ?side2 A2.1).mono ?_);(case side1=>repeat(first|exact(Kd.C_below HR0_1.1 HB.1)|(with_reducible refine Kd.C_alloc ?_ _)|(with_reducible refine Kd.C_drewN ?_ _)|(with_reducible refine Kd.C_drew ?_)));(case side2=>exact HC0_1.1);rintro e w13 ⟨rfl,hb⟩;refine⟨_,rfl,?_⟩;have n0_:=qAm (blk_below (g:=gb303) (o:=.cells #[.int .i64 a0_0,.slice A0_1 l0_1.length c0_1] 26 (0,0)) qB86 hb);have n1_:=qAm (below_step qB44 hb);clear BK303;clear HB;have BK303:=n0_;have HB:=n1_;clear n0_ n1_;(try clear hb);(try clear hb2);(try clear hk);(try clear hi)));go_ret2;exact⟨by first|rfl|(simp [errW_none,errW_some] <;> rfl)|(simp [*,errW_none,errW_some] <;> rfl),by repeat(first|(with_reducible first|exact HB.1|apply below_alloc|apply pw_below_drewN|apply below_drew1|refine below_set ?_ GE303.1)|exact HB.1)⟩

/-! ### slices_Clone_int64_int64: function 85 -/
def slices_Clone_int64_int64.f (l0:List Int):Option (List Int):=if l0.length<17592186044416 then some l0 else none
-- HAND
theorem hcl_info:(Try.prog.info? 2).map (fun i=>(i.zero,i.size,i.bytes))=some (some (.int .i64 0),1,8):=by kernel_rfl
set_option maxHeartbeats 8000000 in
set_option maxRecDepth 100000 in
theorem slices_Clone_int64_int64.calls (A0:Option Addr) (c0:Nat) (l0:List Int) (r:List Int) (w:World) (hr0:Kd.C (Kd.int .i64) w A0 l0.length l0) (hc0:l0.length≤c0) (h:slices_Clone_int64_int64.f l0=some r):
  Calls Try.prog 85 #[.slice A0 l0.length c0] w fun e w'=>∃v0_:Value,e=.returned (v0_)∧Kd.R (Kd.int .i64) 2 w' w.heap.size (fun _=>True) v0_ r∧Below w.heap.size w w':=by
 have HR0:=qAm hr0;have HC0:=qAm hc0;have HB:=qAm (Below.refl w.heap.size w);unfold slices_Clone_int64_int64.f at h
 by_cases c2:l0.length<17592186044416
 ·rw [if_pos c2] at h;obtain rfl:=Option.some.inj h;clear h;have LMc2:=qAm c2;clear c2 hr0 hc0;cases A0 with
  |none=>
   have hz:l0=[]:=by
    rcases Nat.eq_zero_or_pos l0.length with hz|hz
    ·exact List.eq_nil_of_length_eq_zero hz
    ·obtain⟨ad,e,_⟩:=HR0.1.2.2 hz;cases e
   subst hz;have hn:=fun(W:World) (n c n' c':Nat)=>Lib.run_eql_slice_nil (P:=Try.prog) W 22 2 none n c n' c' Try.underlying22
   go_enter Try.func85,Try.ntmps85;go_wp2;go_ret;exact⟨.slice none 0 0,rfl,Kd.R_nil _ _ _ _ _,Below.refl _ _⟩
  |some ad=>
   have hn:=fun(W:World) (n c n' c':Nat)=>Lib.run_eql_slice_nil (P:=Try.prog) W 22 2 (some ad) n c n' c' Try.underlying22
   obtain⟨y105,hy105⟩:∃y_:List Int,y_=([]:List Int):=⟨_,rfl⟩
   obtain⟨y108,hy108⟩:∃y_:List Int,y_=(y105 ++ l0):=⟨_,rfl⟩
   have Ny105:=qAm hy105;have Ny108:=qAm hy108;have N3:=qAm (show y108=l0 by rw [hy108,hy105];rfl);have LM2:=qAm (show y105.length+l0.length<17592186044416 by rw [hy105];simpa using LMc2.1);clear hy105 hy108;go_enter Try.func85,Try.ntmps85;go_wp2_with (first|((with_reducible refine gate_dst (N:=5) rfl ?_);refine Kd.R_lit (Kd.int .i64) _ 2 ?hg (N:=5) ?hd (xs:=([]:List Int)) (inner:=[]) (ok:=fun _=>True) (okp:=fun _=>True) ?hr ?hp (fun _ hk=>hk) trivial (Below.refl _ _) (Nat.le_refl _) (by simp) ?_;(case hd=>rfl);(case hg=>rfl);(case hr=>first|(go_simp;done)|(go_simp;rfl));(case hp=>exact(Reps.none _ _));intro v106 w3 ho4 hb hg_ hnew_;clear hg_ hnew_;(first|rw [← Ny105.1] at ho4|(simp only [Int.reduceToNat] at ho4;rw [← Ny105.1] at ho4));have n0_:=qAm (Kd.R_lower ho4 (below_size qB62));have n1_:=qAm (below_step qB62 hb);clear HB;have HO107:=n0_;have HB:=n1_;clear n0_ n1_;clear hb ho4)|((with_reducible refine gate_builtin (b:=.append) (xs:=#[.tmp 5,.tmp 6]) rfl ?_);at_builtin;refine Kd.R_append_rows (Kd.int .i64) (w0:=w) w.heap.size rfl (.tmp 5) (.tmp 6) 22 2 (.int .i64 0) 8 rfl Try.underlying22 hcl_info rfl (by decide) (by omega) v106 y105 l0 _ _ _ (fun _=>True) (fun _=>False) rfl rfl ?aO ?aR (fun _ _ h=>h) (fun _ h=>h.elim) ?aF ?aB ?aS ?aL ?_;(case aR=>repeat(first|exact(Kd.C_below HR0.1 HB.1)|(with_reducible refine Kd.C_alloc ?_ _)|(with_reducible refine Kd.C_drewN ?_ _)|(with_reducible refine Kd.C_drew ?_)));(case aB=>exact qB62);(case aF=>exact(fun _ _=>trivial));(case aO=>exact(by (with_reducible repeat(first|apply Kd.R_alloc|apply Kd.R_drewN|apply Kd.R_drew));exact HO107.1));(case aS=>exact(below_size qB62));(case aL=>have:=LM2.1;omega);intro v109 w5 ho hb hg hat;rw [← Ny108.1,N3.1] at ho;have n0_:=qAm (hb);have n1_:=qAm (ho);clear HB;clear HO107;have HB:=n0_;have HO110:=n1_;clear n0_ n1_;clear ho hb hg hat));go_ret;exact⟨_,by first|rfl|(simp;done),by (with_reducible repeat(first|apply Kd.R_alloc|apply Kd.R_drewN|apply Kd.R_drew));exact HO110.1,by repeat(first|(with_reducible first|exact HB.1|apply below_alloc|apply pw_below_drewN|apply below_drew1)|exact HB.1)⟩
 ·rw [if_neg c2] at h;cases h

/-! ### impl_quotient: function 99 -/
mutual
def impl_quotient.l0:Nat→List Int→List Int→List Int→Int→Option (List Int)
 |0,_,_,_,_=>none
 |k+1,x0,x1,x5,x6=>if x6≥0 then (if 0≤(wrap64 ((wrap64 (x6+(x1.length:Int))) - 1)) then (if (wrap64 ((wrap64 (x6+(x1.length:Int))) - 1))<(x0.length:Int) then (if 0≤x6 then (if x6<(x5.length:Int) then (impl_quotient.l1 k x0 x1 (x5.set (x6:Int).toNat (rd x0 (wrap64 ((wrap64 (x6+(x1.length:Int))) - 1)))) x6 x1 (x1.length:Int) 0) else (none)) else (none)) else (none)) else (none)) else (some x5)
def impl_quotient.l1:Nat→List Int→List Int→List Int→Int→List Int→Int→Int→Option (List Int)
 |0,_,_,_,_,_,_,_=>none
 |k+1,x0,x1,x5,x6,x36,x37,x38=>if x38<x37 then (if 0≤x38 then (if x38<(x36.length:Int) then (if 0≤(wrap64 (x6+x38)) then (if (wrap64 (x6+x38))<(x0.length:Int) then (if 0≤x6 then (if x6<(x5.length:Int) then (impl_quotient.l1 k (x0.set ((wrap64 (x6+x38)):Int).toNat (wrap64 ((rd x0 (wrap64 (x6+x38))) - (wrap64 ((rd x5 x6)*(rd x36 x38)))))) x1 x5 x6 x36 x37 (wrap64 (x38+1))) else (none)) else (none)) else (none)) else (none)) else (none)) else (none)) else (impl_quotient.l0 k x0 x1 x5 (wrap64 (x6 - 1)))
end
def impl_quotient.f (k:Nat) (l0:List Int) (l1:List Int):Option (List Int):=(slices_Clone_int64_int64.f l0).bind fun t309=>(if 0≤(wrap64 ((wrap64 ((t309.length:Int) - (l1.length:Int)))+1)) then (if (wrap64 ((wrap64 ((t309.length:Int) - (l1.length:Int)))+1):Int).toNat≤35184372088832 then ((some (List.replicate (wrap64 ((wrap64 ((t309.length:Int) - (l1.length:Int)))+1):Int).toNat 0:List Int)).bind fun y312=>(impl_quotient.l0 k t309 l1 y312 (wrap64 ((y312.length:Int) - 1)))) else (none)) else (none))
theorem impl_quotient.mono_l:∀k,(∀y0 y1 y2 y3,LeO (impl_quotient.l0 k y0 y1 y2 y3) (impl_quotient.l0 (k+1) y0 y1 y2 y3))∧(∀y0 y1 y2 y3 y4 y5 y6,LeO (impl_quotient.l1 k y0 y1 y2 y3 y4 y5 y6) (impl_quotient.l1 (k+1) y0 y1 y2 y3 y4 y5 y6))
 |0=>⟨fun _ _ _ _ r h=>by simp [impl_quotient.l0] at h,fun _ _ _ _ _ _ _ r h=>by simp [impl_quotient.l1] at h⟩
 |k+1=>by
  obtain⟨ih0,ih1⟩:=impl_quotient.mono_l k;refine⟨?_,?_⟩
  ·intro y0 y1 y2 y3;unfold impl_quotient.l0;repeat' first
   |(with_reducible exact ih0 _ _ _ _)
   |(with_reducible exact ih1 _ _ _ _ _ _ _)
   |(with_reducible exact LeO.refl _)
   |(with_reducible exact LeO.none _)
   |(with_reducible refine LeO.ite ?_ ?_)
   |(with_reducible refine LeO.bind ?_ (fun _=>?_))
   |exact ih0 _ _ _ _
   |exact ih1 _ _ _ _ _ _ _
   |exact LeO.none _
   |refine LeO.ite ?_ ?_
   |refine LeO.bind ?_ (fun _=>?_)
  ·intro y0 y1 y2 y3 y4 y5 y6;unfold impl_quotient.l1;repeat' first
   |(with_reducible exact ih0 _ _ _ _)
   |(with_reducible exact ih1 _ _ _ _ _ _ _)
   |(with_reducible exact LeO.refl _)
   |(with_reducible exact LeO.none _)
   |(with_reducible refine LeO.ite ?_ ?_)
   |(with_reducible refine LeO.bind ?_ (fun _=>?_))
   |exact ih0 _ _ _ _
   |exact ih1 _ _ _ _ _ _ _
   |exact LeO.none _
   |refine LeO.ite ?_ ?_
   |refine LeO.bind ?_ (fun _=>?_)
theorem impl_quotient.mono:∀a0 a1 k,LeO (impl_quotient.f k a0 a1) (impl_quotient.f (k+1) a0 a1):=by
 intro a0 a1 k;obtain⟨ih0,ih1⟩:=impl_quotient.mono_l k;unfold impl_quotient.f;repeat' first
   |(with_reducible exact ih0 _ _ _ _)
   |(with_reducible exact ih1 _ _ _ _ _ _ _)
   |(with_reducible exact LeO.refl _)
   |(with_reducible exact LeO.none _)
   |(with_reducible refine LeO.ite ?_ ?_)
   |(with_reducible refine LeO.bind ?_ (fun _=>?_))
   |exact ih0 _ _ _ _
   |exact ih1 _ _ _ _ _ _ _
   |exact LeO.none _
   |refine LeO.ite ?_ ?_
   |refine LeO.bind ?_ (fun _=>?_)
def impl_quotient.T10:Bool×List (List Nat×List Nat):=(true,[([],[]),([],[]),([],[]),([1,2],[1,2]),([0,3],[0,3]),([4],[4]),([],[]),([],[]),([6,7],[6,7]),([8],[8]),([],[]),([9,10],[9,10]),([5,11],[5,11]),([0,3,0,1,2,3,4,5,6,7,8,9,10,11,12],[0,3]),([13,12,0,1,2,3,4,5,6,7,8,9,10,11,12],[12,13])])
def impl_quotient.B10:List Nat:=[0,0,0,6,15,31,0,0,192,448,0,1984,4095,8191,16383]
theorem impl_quotient.tab10:rtab .any (opsOf Try.f99 10)=impl_quotient.T10:=by kernel_rfl
theorem impl_quotient.bits10:waitsOk impl_quotient.T10.2 impl_quotient.B10=true:=by kernel_rfl
set_option maxHeartbeats 8000000 in
set_option maxRecDepth 100000 in
theorem impl_quotient.calls (k:Nat) (A0:Option Addr) (c0:Nat) (l0:List Int) (A1:Option Addr) (c1:Nat) (l1:List Int) (r:List Int) (w:World) (hr0:Kd.C (Kd.int .i64) w A0 l0.length l0) (hc0:l0.length≤c0) (hr1:Kd.C (Kd.int .i64) w A1 l1.length l1) (hc1:l1.length≤c1) (h:impl_quotient.f k l0 l1=some r):
  Calls Try.prog 99 #[.slice A0 l0.length c0,.slice A1 l1.length c1] w fun e w'=>∃v0_:Value,e=.returned (v0_)∧Kd.R (Kd.int .i64) 2 w' w.heap.size (fun _=>True) v0_ r∧Below w.heap.size w w':=by
 have HR0:=qAm hr0;have HC0:=qAm hc0;clear hr0 hc0;have HR1:=qAm hr1;have HC1:=qAm hc1;clear hr1 hc1;have HB:=qAm (Below.refl w.heap.size w);have H:((slices_Clone_int64_int64.f l0).bind fun t309=>(if 0≤(wrap64 ((wrap64 ((t309.length:Int) - (l1.length:Int)))+1)) then (if (wrap64 ((wrap64 ((t309.length:Int) - (l1.length:Int)))+1):Int).toNat≤35184372088832 then ((some (List.replicate (wrap64 ((wrap64 ((t309.length:Int) - (l1.length:Int)))+1):Int).toNat 0:List Int)).bind fun y312=>(impl_quotient.l0 k t309 l1 y312 (wrap64 ((y312.length:Int) - 1)))) else (none)) else (none)))=some r:=h;clear h;replace H:=qOb H;obtain⟨t309,A30,H⟩:=H;replace H:(if 0≤(wrap64 ((wrap64 ((t309.length:Int) - (l1.length:Int)))+1)) then (if (wrap64 ((wrap64 ((t309.length:Int) - (l1.length:Int)))+1):Int).toNat≤35184372088832 then ((some (List.replicate (wrap64 ((wrap64 ((t309.length:Int) - (l1.length:Int)))+1):Int).toNat 0:List Int)).bind fun y312=>(impl_quotient.l0 k t309 l1 y312 (wrap64 ((y312.length:Int) - 1)))) else (none)) else (none))=some r:=H;have A3:=qAm A30;clear A30;obtain⟨ji4,hji4⟩:∃j_:Int,(wrap64 ((wrap64 ((t309.length:Int) - (l1.length:Int)))+1))=j_:=⟨_,rfl⟩
 replace H:(if 0≤(ji4) then (if (ji4:Int).toNat≤35184372088832 then ((some (List.replicate (ji4:Int).toNat 0:List Int)).bind fun y312=>(impl_quotient.l0 k t309 l1 y312 (wrap64 ((y312.length:Int) - 1)))) else (none)) else (none))=some r:=by first|(rw [hji4] at H;exact H)|(simp only [hji4] at H ⊢;exact H)
 (try rw [hji4] at A3)
 have hji4w:(IntKind.i64.wrap ((wrap64 ((t309.length:Int) - (l1.length:Int)))+1))=ji4:=(i64_w _).trans hji4
 by_cases c5:0≤(ji4)
 ·rw [if_pos c5] at H;have c5b0:=eq_true c5;have c5b1:decide (0≤(ji4))=true:=decide_eq_true c5;clear c5
  by_cases c6:(ji4:Int).toNat≤35184372088832
  ·rw [if_pos c6] at H;have c6b0:=eq_true c6;have c6b1:decide ((ji4:Int).toNat≤35184372088832)=true:=decide_eq_true c6;clear c6;obtain⟨y312,hy312⟩:∃y_:List Int,y_=(List.replicate (ji4:Int).toNat 0):=⟨_,rfl⟩
   replace H:(impl_quotient.l0 k t309 l1 y312 (wrap64 ((y312.length:Int) - 1)))=some r:=by first|(rw [hy312];with_reducible exact H)|(have H2_:=(Option.bind_some _ _).symm.trans H;rw [hy312];with_reducible exact H2_)|(have H2_:=(Option.bind_some _ _).symm.trans H;with_reducible exact H2_)|with_reducible exact H|(rw [hy312];exact H)|exact H
   have Ny312:=qAm hy312;clear hy312;have H':=qAm H;clear H;go_enter Try.func99,Try.ntmps99;go_wp2_with (first|((with_reducible refine gate_callee (f:=85) rfl ?_);refine goesL_ (some 10) rfl rfl Try.func85 (by kernel_rfl) rfl #[.slice A0 l0.length c0] rfl qB60 ?_;(with_reducible refine(slices_Clone_int64_int64.calls _ _ l0 t309 _ ?side1 ?side2 A3.1).mono ?_);(case side1=>repeat(first|exact HR0.1|(with_reducible refine Kd.C_alloc ?_ _)|(with_reducible refine Kd.C_drewN ?_ _)|(with_reducible refine Kd.C_drew ?_)));(case side2=>exact HC0.1);rintro e w7 ⟨v310,rfl,ho0,hb⟩;refine⟨_,rfl,?_⟩;have n0_:=qAm (Kd.R_lower ho0 (below_size qB62));have n1_:=qAm (below_step qB62 hb);clear HB;have HO311:=n0_;have HB:=n1_;clear n0_ n1_;(try clear hb);(try clear hb2);(try clear hk);(try clear hi);(try clear ho0);obtain⟨Ao8,co8,eo8⟩:=Kd.R_slice HO311.1;subst eo8)|((with_reducible refine gate_dst (N:=17) rfl ?_);refine Kd.R_make (Kd.int .i64) _ 2 rfl (N:=17) rfl 22 _ _ rfl ji4 rfl rfl Try.underlying22 (.int .i64 0) 8 info2 rfl (by decide) (by omega) 0 (ok:=fun _=>True) (okp:=fun _=>True) rfl (fun _ hk=>hk) trivial (of_decide_eq_true qB126) (Nat.le_trans (Nat.mul_le_mul_right _ (of_decide_eq_true qB126:ji4.toNat≤35184372088832)) (by omega)) (Below.refl _ _) (Nat.le_refl _) ?_;intro v313 w9 ho10 hb hg_ hnew_;clear hg_ hnew_;(first|rw [← Ny312.1] at ho10|(simp only [Int.reduceToNat] at ho10;rw [← Ny312.1] at ho10));have n0_:=qAm (Kd.R_elder' qB109 (Kd.R_base ho10) hb);have n1_:=qAm (Kd.R_lower (Kd.R_new' ho10 (Kd.R_lt qB109)) (below_size qB62));have n2_:=qAm (below_step qB62 hb);clear HO311;clear HB;have HO311:=n0_;have HO314:=n1_;have HB:=n2_;clear n0_ n1_ n2_;clear hb ho10;obtain⟨Ao11,co11,eo11⟩:=Kd.R_slice HO314.1;subst eo11));try simp only [Act.put,qSa,qSc,qSb]
   go_loopg [6] k (fun kq v6 w'=>∃(x0_1:List Int) (x5_1:List Int) (x6_1:Int),v6=.int .i64 x6_1∧Aside0 (impl_quotient.l0 kq x0_1 l1 x5_1 x6_1=some r)∧Aside0 (kq≤k)∧Aside0 (Kd.R (Kd.int .i64) 2 w' w.heap.size (fun k_=>some k_≠((.slice Ao11 y312.length co11):Value).ownBlock) (.slice Ao8 t309.length co8) x0_1)∧Aside0 (Kd.R (Kd.int .i64) 2 w' w.heap.size (fun k_=>some k_≠((.slice Ao8 t309.length co8):Value).ownBlock) (.slice Ao11 y312.length co11) x5_1)∧Aside0 (Below w.heap.size w w'))
   case atStart=>exact⟨(t309),(y312),(wrap64 ((y312.length:Int) - 1)),qB127,H',⟨Nat.le_refl _⟩,⟨by (with_reducible repeat(first|apply Kd.R_alloc|apply Kd.R_drewN|apply Kd.R_drew));exact Kd.R_mono HO311.1 (fun _ hk=>hk.2)⟩,⟨by (with_reducible repeat(first|apply Kd.R_alloc|apply Kd.R_drewN|apply Kd.R_drew));exact Kd.R_mono HO314.1 (fun _ hk=>hk.2)⟩,⟨by repeat(first|(with_reducible first|exact HB.1|apply below_alloc|apply pw_below_drewN|apply below_drew1)|exact HB.1)⟩⟩
   case round=>
    clear H';try clear c1
    try clear p2
    try clear c5
    try clear c5b0
    try clear c5b1
    try clear c6
    try clear c6b0
    try clear c6b1
    try clear p6
    try clear c8
    try clear c9
    obtain⟨x0_1,x5_1,x6_1,rfl,HA,HK1,HO_0,HO_5,HB⟩:=hrel;have hl0_1:=(Kd.R_reads' HO_0.1).1;rw [hl0_1] at HO_0
    (try simp only [hl0_1])
    (try simp only [hl0_1] at HO_5)
    have hl5_1:=(Kd.R_reads' HO_5.1).1;rw [hl5_1] at HO_5
    (try simp only [hl5_1])
    (try simp only [hl5_1] at HO_0)
    cases gk with
    |zero=>exact absurd HA.1 (by simp [impl_quotient.l0])
    |succ k1=>
     have H:=HA.1;clear HA;simp only [impl_quotient.l0] at H
     by_cases c12:x6_1≥0
     ·rw [if_pos c12] at H;have c12b0:decide (0≤x6_1)=true:=decide_eq_true c12;clear c12;obtain⟨ji13,hji13⟩:∃j_:Int,(wrap64 ((wrap64 (x6_1+(l1.length:Int))) - 1))=j_:=⟨_,rfl⟩
      replace H:(if 0≤(ji13) then (if (ji13)<(x0_1.length:Int) then (if 0≤x6_1 then (if x6_1<(x5_1.length:Int) then (impl_quotient.l1 k1 x0_1 l1 (x5_1.set (x6_1:Int).toNat (rd x0_1 (ji13))) x6_1 l1 (l1.length:Int) 0) else (none)) else (none)) else (none)) else (none))=some r:=by first|(rw [hji13] at H;exact H)|(simp only [hji13] at H ⊢;exact H)
      have hji13w:(IntKind.i64.wrap ((wrap64 (x6_1+(l1.length:Int))) - 1))=ji13:=(i64_w _).trans hji13
      by_cases c14:0≤(ji13)
      ·rw [if_pos c14] at H;have c14b0:decide (0≤(ji13))=true:=decide_eq_true c14;clear c14
       by_cases c15:(ji13)<(x0_1.length:Int)
       ·rw [if_pos c15] at H;have c15b0:decide ((ji13)<(x0_1.length:Int))=true:=decide_eq_true c15;clear c15
        by_cases c16:0≤x6_1
        ·rw [if_pos c16] at H;have c16b0:decide (0≤x6_1)=true:=decide_eq_true c16;clear c16
         by_cases c17:x6_1<(x5_1.length:Int)
         ·rw [if_pos c17] at H;have c17b0:decide (x6_1<(x5_1.length:Int))=true:=decide_eq_true c17;clear c17;obtain⟨y316,hy316⟩:∃y_:List Int,y_=(x5_1.set (x6_1:Int).toNat (rd x0_1 (ji13))):=⟨_,rfl⟩
          replace H:(impl_quotient.l1 k1 x0_1 l1 y316 x6_1 l1 (l1.length:Int) 0)=some r:=by first|(rw [hy316];with_reducible exact H)|(have H2_:=(Option.bind_some _ _).symm.trans H;rw [hy316];with_reducible exact H2_)|(have H2_:=(Option.bind_some _ _).symm.trans H;with_reducible exact H2_)|with_reducible exact H|(rw [hy316];exact H)|exact H
          have Ny316:=qAm hy316;clear hy316;have H':=qAm H;clear H;have p315:0≤((ji13):Int):=of_decide_eq_true qB126;have q315:(ji13)<(x0_1.length:Int):=of_decide_eq_true qB126;obtain⟨ad315,e315,hx315_0⟩:=Kd.at_int (Kd.R_reads' HO_0.1).2.2 (ji13) p315 q315;cases e315
          replace p315:=eq_true p315;replace q315:=eq_true q315;have p18:0≤(x6_1:Int):=of_decide_eq_true qB126;have q18:(x6_1:Int)<((x5_1.length:Int):Int):=of_decide_eq_true qB126;obtain⟨go18,co18,eo18,gb18,gl18,cl18,HG18⟩:=Kd.R_form HO_5.1 (by omega)
          (first|cases eo18|(injection eo18 with ea_ en_ ec_;(first|subst ea_|(injection ea_ with ea_;subst ea_));subst ec_;clear en_))
          have GB18:=qAm gb18;have GG18:=qAm HG18;clear gb18 gl18 HG18;obtain⟨hx18_0,hf18_0⟩:=Kd.R_celln 0 HO_5.1 (x6_1:Int) p18 q18;replace p18:=eq_true p18;replace q18:=eq_true q18;have HP19:=Kd.R_putg HO_5.1 (x6_1:Int) (rd x0_1 (ji13));go_wp2_with (first|((with_reducible refine gate_store (t:=2) (p:=35) rfl ?_);refine store_event (t:=2) (p:=35) (v:=?vo_w20) (w1:=(wr.setCell ⟨go18,(x6_1:Int).toNat,none⟩ (.int .i64 (rd x0_1 (ji13))))) ?hg ?ho ?hn ?hr ?_;(case ho=>rfl);(case hg=>rfl);(case hn=>rfl);(case hr=>first|(go_simp;done)|(go_simp;rfl));intro w20 hw;have hg:wr.grownBy w20 (some go18):=(by rw [hw];exact HP19.2);have hp_:Kd.R (Kd.int .i64) 2 w20 w.heap.size (fun k_=>some k_≠(.slice (some ad315) x0_1.length co8:Value).ownBlock) (.slice (some ⟨go18,0,none⟩) x5_1.length co11) y316:=(by rw [hw,Ny316.1];exact HP19.1);clear HP19;have n0_:=qAm (Kd.R_after (v:=(.slice (some ⟨go18,0,none⟩) x5_1.length co11)) (v1:=(.slice (some ⟨go18,0,none⟩) x5_1.length co11)) (ok:=(fun _=>True)) (by (with_reducible repeat(first|apply Kd.R_alloc|apply Kd.R_drewN|apply Kd.R_drew));exact Kd.R_mono HO_0.1 (fun _ hk=>⟨trivial,hk⟩)) hg (.inl rfl));have n1_:=qAm (hp_);have n2_:=qAm ((by rw [hw];exact below_set (HB.1) GB18.1:Below w.heap.size w w20));clear HO_0;clear HO_5;clear HB;have HO_0:=n0_;have HO_5:=n1_;have HB:=n2_;clear n0_ n1_ n2_;clear hg hw hp_));try simp only [Act.put,qSa,qSc,qSb]
          go_loopg [38] k1 (fun kq v38 w'=>∃(x0_2:List Int) (x38_2:Int),v38=.int .i64 x38_2∧Aside0 (impl_quotient.l1 kq x0_2 l1 y316 x6_1 l1 (l1.length:Int) x38_2=some r)∧Aside0 (kq≤k1)∧Aside0 (Kd.R (Kd.int .i64) 2 w' w.heap.size (fun k_=>some k_≠((.slice (some ⟨go18,0,none⟩) x5_1.length co11):Value).ownBlock) (.slice (some ad315) x0_1.length co8) x0_2)∧Aside0 (Kd.R (Kd.int .i64) 2 w' w.heap.size (fun k_=>some k_≠((.slice (some ad315) x0_1.length co8):Value).ownBlock) (.slice (some ⟨go18,0,none⟩) x5_1.length co11) y316)∧Aside0 (Below w.heap.size w w'))
          case atStart=>exact⟨(x0_1),(0),qB127,H',⟨Nat.le_refl _⟩,⟨by (try simp only [hl0_1]);(try simp only [hl5_1]);(with_reducible repeat(first|apply Kd.R_alloc|apply Kd.R_drewN|apply Kd.R_drew));exact Kd.R_mono HO_0.1 (fun _ hk=>hk.2)⟩,⟨by (try simp only [hl0_1]);(try simp only [hl5_1]);(with_reducible repeat(first|apply Kd.R_alloc|apply Kd.R_drewN|apply Kd.R_drew));exact HO_5.1⟩,⟨by repeat(first|(with_reducible first|exact HB.1|apply below_alloc|apply pw_below_drewN|apply below_drew1)|exact HB.1)⟩⟩
          case round=>
           clear H';try clear c1
           try clear p1
           try clear q1
           try clear hx1
           try clear p2
           try clear p3
           try clear q3
           try clear hx3
           try clear c5
           try clear c5b0
           try clear c5b1
           try clear c6
           try clear c6b0
           try clear c6b1
           try clear p6
           try clear c8
           try clear c9
           try clear c12
           try clear c12b0
           try clear c14
           try clear c14b0
           try clear c15
           try clear c15b0
           try clear c16
           try clear c16b0
           try clear c17
           try clear c17b0
           try clear p18
           try clear q18
           try clear hx18
           try clear hf18
           try clear hx18_0
           try clear hx315_0
           try clear p18
           try clear p2
           try clear p315
           try clear p6
           try clear q18
           try clear q315
           obtain⟨x0_2,x38_2,rfl,HA,HK2,HO_0,HO_5,HB⟩:=hrel;have hl0_2:=(Kd.R_reads' HO_0.1).1;rw [hl0_2] at HO_0
           (try simp only [hl0_2])
           (try simp only [hl0_2] at HO_5)
           have hl5_2:=(Kd.R_reads' HO_5.1).1;rw [hl5_2] at HO_5
           (try simp only [hl5_2])
           (try simp only [hl5_2] at HO_0)
           cases gk with
           |zero=>exact absurd HA.1 (by simp [impl_quotient.l1])
           |succ k2=>
            have H:=HA.1;clear HA;simp only [impl_quotient.l1] at H
            by_cases c21:x38_2<(l1.length:Int)
            ·rw [if_pos c21] at H;have c21b0:decide (x38_2<(l1.length:Int))=true:=decide_eq_true c21;clear c21
             by_cases c22:0≤x38_2
             ·rw [if_pos c22] at H;have c22b0:decide (0≤x38_2)=true:=decide_eq_true c22;clear c22
              by_cases c23:x38_2<(l1.length:Int)
              ·rw [if_pos c23] at H;have c23b0:decide (x38_2<(l1.length:Int))=true:=decide_eq_true c23;clear c23;obtain⟨ji24,hji24⟩:∃j_:Int,(wrap64 (x6_1+x38_2))=j_:=⟨_,rfl⟩
               replace H:(if 0≤(ji24) then (if (ji24)<(x0_2.length:Int) then (if 0≤x6_1 then (if x6_1<(y316.length:Int) then (impl_quotient.l1 k2 (x0_2.set ((ji24):Int).toNat (wrap64 ((rd x0_2 (ji24)) - (wrap64 ((rd y316 x6_1)*(rd l1 x38_2)))))) l1 y316 x6_1 l1 (l1.length:Int) (wrap64 (x38_2+1))) else (none)) else (none)) else (none)) else (none))=some r:=by first|(rw [hji24] at H;exact H)|(simp only [hji24] at H ⊢;exact H)
               have hji24w:(IntKind.i64.wrap (x6_1+x38_2))=ji24:=(i64_w _).trans hji24
               by_cases c25:0≤(ji24)
               ·rw [if_pos c25] at H;have c25b0:decide (0≤(ji24))=true:=decide_eq_true c25;clear c25
                by_cases c26:(ji24)<(x0_2.length:Int)
                ·rw [if_pos c26] at H;have c26b0:decide ((ji24)<(x0_2.length:Int))=true:=decide_eq_true c26;clear c26
                 by_cases c27:0≤x6_1
                 ·rw [if_pos c27] at H;have c27b0:decide (0≤x6_1)=true:=decide_eq_true c27;clear c27
                  by_cases c28:x6_1<(y316.length:Int)
                  ·rw [if_pos c28] at H;have c28b0:decide (x6_1<(y316.length:Int))=true:=decide_eq_true c28;clear c28;obtain⟨y320,hy320⟩:∃y_:List Int,y_=(x0_2.set ((ji24):Int).toNat (wrap64 ((rd x0_2 (ji24)) - (wrap64 ((rd y316 x6_1)*(rd l1 x38_2)))))):=⟨_,rfl⟩
                   replace H:(impl_quotient.l1 k2 y320 l1 y316 x6_1 l1 (l1.length:Int) (wrap64 (x38_2+1)))=some r:=by first|(rw [hy320];with_reducible exact H)|(have H2_:=(Option.bind_some _ _).symm.trans H;rw [hy320];with_reducible exact H2_)|(have H2_:=(Option.bind_some _ _).symm.trans H;with_reducible exact H2_)|with_reducible exact H|(rw [hy320];exact H)|exact H
                   have Ny320:=qAm hy320;clear hy320;have H':=qAm H;clear H;have p317:0≤(x38_2:Int):=of_decide_eq_true qB126;have q317:x38_2<(l1.length:Int):=of_decide_eq_true qB126;obtain⟨ad317,e317,hx317_0⟩:=Kd.at_int HR1.1 x38_2 p317 q317;cases e317
                   replace hx317_0:=(HB.1.cell (World.block_lt_of_cell? w _ hx317_0)).trans hx317_0;replace p317:=eq_true p317;replace q317:=eq_true q317;try go_wp2
                   have n0_:=qAm (Kd.R_drew HO_0.1);have n1_:=qAm (Kd.R_drew HO_5.1);have n2_:=qAm (below_drew1 HB.1);clear HO_0 HO_5 HB;have HO_0:=n0_;have HO_5:=n1_;have HB:=n2_;clear n0_ n1_ n2_;have p318:0≤((ji24):Int):=of_decide_eq_true qB126;have q318:(ji24)<(x0_2.length:Int):=of_decide_eq_true qB126;obtain⟨ad318,e318,hx318_0⟩:=Kd.at_int (Kd.R_reads' HO_0.1).2.2 (ji24) p318 q318;obtain rfl:ad315=ad318:=(by injection e318)
                   replace p318:=eq_true p318;replace q318:=eq_true q318;have p319:0≤(x6_1:Int):=of_decide_eq_true qB126;have q319:x6_1<(y316.length:Int):=of_decide_eq_true qB126;obtain⟨ad319,e319,hx319_0⟩:=Kd.at_int (Kd.R_reads' HO_5.1).2.2 x6_1 p319 q319;obtain rfl:(⟨go18,0,none⟩:Addr)=ad319:=(by injection e319)
                   (first|simp only [add_plain] at hx319_0|simp only [add_at] at hx319_0|simp only [Addr.add,Nat.zero_add] at hx319_0|skip)
                   replace p319:=eq_true p319;replace q319:=eq_true q319;have p29:0≤((ji24):Int):=of_decide_eq_true qB126;have q29:((ji24):Int)<((x0_2.length:Int):Int):=of_decide_eq_true qB126;obtain⟨go29,co29,eo29,gb29,gl29,cl29,HG29⟩:=Kd.R_form HO_0.1 (by omega)
                   (first|cases eo29|(injection eo29 with ea_ en_ ec_;(first|subst ea_|(injection ea_ with ea_;subst ea_));subst ec_;clear en_))
                   have GB29:=qAm gb29;have GG29:=qAm HG29;clear gb29 gl29 HG29
                   (first|simp only [add_plain] at hx315_0|skip)
                   (first|simp only [add_plain] at hx318_0|skip)
                   obtain⟨hx29_0,hf29_0⟩:=Kd.R_celln 0 HO_0.1 ((ji24):Int) p29 q29;replace p29:=eq_true p29;replace q29:=eq_true q29;have HP31:=Kd.R_putn HO_0.1 ((ji24):Int) (wrap64 ((rd x0_2 (ji24)) - (wrap64 ((rd y316 x6_1)*(rd l1 x38_2)))));rw [← Ny320.1] at HP31;have HQ31:=qAm HP31;clear HP31;refine start_ (n:=15) (S:=fun w'=>w'.cell? ⟨go29,((ji24)).toNat,none⟩=some (.int .i64 (rd x0_2 (ji24)))∧w'.cell? ⟨go18,(x6_1).toNat,none⟩=some (.int .i64 (rd y316 x6_1))) (ds:=[14]) #[false,false,false,false,false,false,false,false,false,false,false,false,false,false,false] (by kernel_rfl) rfl rfl ⟨hx318_0,hx319_0⟩ (fun hHeld=>?_);refine with_tabW impl_quotient.tab10 impl_quotient.bits10 (fun HT_ HW_=>?_)
                   (first|generalize wr.drew=w30 at HO_0 HO_5 HB GG29 HQ31 hf29_0 hx29_0 hx315_0 hx318_0 hx319_0 hHeld ⊢|generalize wr.drew=w30 at HO_0 HO_5 HB GG29 HQ31 hf29_0 hx29_0 hx318_0 hx319_0 hHeld ⊢)
                   refine pure_ (i:=0) (N:=some 43) (v:=?_) (a':=?_) #[true,false,false,false,false,false,false,false,false,false,false,false,false,false,false] rfl rfl (any_of HT_.1 (by kernel_rfl)) (fun _ _ _ h=>h) (Or.inl ⟨by rfl,?_⟩) ?_ ?_;rotate_left
                   ·intro w';go_simp;with_reducible rfl
                   rotate_left
                   ·simp only [Act.put,qSa,qSb,qSc,i64_w,i32_w];rfl
                   refine pure_ (i:=1) (N:=some 44) (v:=?_) (a':=?_) #[true,true,false,false,false,false,false,false,false,false,false,false,false,false,false] rfl rfl (any_of HT_.1 (by kernel_rfl)) (fun _ _ _ h=>h) (Or.inl ⟨by rfl,?_⟩) ?_ ?_;rotate_left
                   ·intro w';go_simp;with_reducible rfl
                   rotate_left
                   ·simp only [Act.put,qSa,qSb,qSc,i64_w,i32_w];rfl
                   refine pure_ (i:=2) (N:=some 45) (v:=?_) (a':=?_) #[true,true,true,false,false,false,false,false,false,false,false,false,false,false,false] rfl rfl (any_of HT_.1 (by kernel_rfl)) (fun _ _ _ h=>h) (Or.inl ⟨by rfl,?_⟩) ?_ ?_;rotate_left
                   ·intro w';go_simp;with_reducible rfl
                   rotate_left
                   ·simp only [Act.put,qSa,qSb,qSc,i64_w,i32_w];rfl
                   refine pure_ (i:=3) (N:=some 46) (v:=?_) (a':=?_) #[true,true,true,true,false,false,false,false,false,false,false,false,false,false,false] rfl rfl (any_of HT_.1 (by kernel_rfl)) (fun _ _ _ h=>h) (Or.inl ⟨by rfl,?_⟩) ?_ ?_;rotate_left
                   ·intro w';go_simp;with_reducible rfl
                   rotate_left
                   ·simp only [Act.put,qSa,qSb,qSc,i64_w,i32_w];rfl
                   refine pure_ (i:=4) (N:=some 47) (v:=?_) (a':=?_) #[true,true,true,true,true,false,false,false,false,false,false,false,false,false,false] rfl rfl (any_of HT_.1 (by kernel_rfl)) (fun _ _ _ h=>h) (Or.inl ⟨by rfl,?_⟩) ?_ ?_;rotate_left
                   ·intro w';go_simp;with_reducible rfl
                   rotate_left
                   ·simp only [Act.put,qSa,qSb,qSc,i64_w,i32_w];rfl
                   refine pure_ (i:=6) (N:=some 49) (v:=?_) (a':=?_) #[true,true,true,true,true,false,true,false,false,false,false,false,false,false,false] rfl rfl (any_of HT_.1 (by kernel_rfl)) (fun _ _ _ h=>h) (Or.inl ⟨by rfl,?_⟩) ?_ ?_;rotate_left
                   ·intro w';go_simp;with_reducible rfl
                   rotate_left
                   ·simp only [Act.put,qSa,qSb,qSc,i64_w,i32_w];rfl
                   refine pure_ (i:=7) (N:=some 50) (v:=?_) (a':=?_) #[true,true,true,true,true,false,true,true,false,false,false,false,false,false,false] rfl rfl (any_of HT_.1 (by kernel_rfl)) (fun _ _ _ h=>h) (Or.inl ⟨by rfl,?_⟩) ?_ ?_;rotate_left
                   ·intro w';go_simp;with_reducible rfl
                   rotate_left
                   ·simp only [Act.put,qSa,qSb,qSc,i64_w,i32_w];rfl
                   refine pure_ (i:=8) (N:=some 51) (v:=?_) (a':=?_) #[true,true,true,true,true,false,true,true,true,false,false,false,false,false,false] rfl rfl (any_of HT_.1 (by kernel_rfl)) (fun _ _ _ h=>h) (Or.inl ⟨by rfl,?_⟩) ?_ ?_;rotate_left
                   ·intro w';go_simp;with_reducible rfl
                   rotate_left
                   ·simp only [Act.put,qSa,qSb,qSc,i64_w,i32_w];rfl
                   refine pure_ (i:=10) (N:=some 53) (v:=?_) (a':=?_) #[true,true,true,true,true,false,true,true,true,false,true,false,false,false,false] rfl rfl (any_of HT_.1 (by kernel_rfl)) (fun _ _ _ h=>h) (Or.inl ⟨by rfl,?_⟩) ?_ ?_;rotate_left
                   ·intro w';go_simp;with_reducible rfl
                   rotate_left
                   ·simp only [Act.put,qSa,qSb,qSc,i64_w,i32_w];rfl
                   refine take_ (i:=5) (N:=some 48) (v:=?_) (a':=?_) #[true,true,true,true,true,true,true,true,true,false,true,false,false,false,false] rfl rfl (take_ofW HT_.1 HW_.1 (by kernel_rfl)) (fun _ _ _ h=>h) (Or.inl ⟨by rfl,?_⟩) hHeld ?_ ?_;rotate_left
                   ·rintro w' ⟨s0,s1⟩;go_simp;with_reducible rfl
                   rotate_left
                   ·simp only [Act.put,qSa,qSb,qSc,i64_w,i32_w];rfl
                   refine take_ (i:=9) (N:=some 52) (v:=?_) (a':=?_) #[true,true,true,true,true,true,true,true,true,true,true,false,false,false,false] rfl rfl (take_ofW HT_.1 HW_.1 (by kernel_rfl)) (fun _ _ _ h=>h) (Or.inl ⟨by rfl,?_⟩) hHeld ?_ ?_;rotate_left
                   ·rintro w' ⟨s0,s1⟩;go_simp;with_reducible rfl
                   rotate_left
                   ·simp only [Act.put,qSa,qSb,qSc,i64_w,i32_w];rfl
                   refine pure_ (i:=11) (N:=some 54) (v:=?_) (a':=?_) #[true,true,true,true,true,true,true,true,true,true,true,true,false,false,false] rfl rfl (any_of HT_.1 (by kernel_rfl)) (fun _ _ _ h=>h) (Or.inl ⟨by rfl,?_⟩) ?_ ?_;rotate_left
                   ·intro w';go_simp;with_reducible rfl
                   rotate_left
                   ·simp only [Act.put,qSa,qSb,qSc,i64_w,i32_w];rfl
                   refine pure_ (i:=12) (N:=some 55) (v:=?_) (a':=?_) #[true,true,true,true,true,true,true,true,true,true,true,true,true,false,false] rfl rfl (any_of HT_.1 (by kernel_rfl)) (fun _ _ _ h=>h) (Or.inl ⟨by rfl,?_⟩) ?_ ?_;rotate_left
                   ·intro w';go_simp;with_reducible rfl
                   rotate_left
                   ·simp only [Act.put,qSa,qSb,qSc,i64_w,i32_w];rfl
                   refine pure_ (i:=13) (N:=some 56) (v:=?_) (a':=?_) #[true,true,true,true,true,true,true,true,true,true,true,true,true,true,false] rfl rfl (any_of HT_.1 (by kernel_rfl)) (fun _ _ _ h=>h) (Or.inl ⟨by rfl,?_⟩) ?_ ?_;rotate_left
                   ·intro w';go_simp;with_reducible rfl
                   rotate_left
                   ·simp only [Act.put,qSa,qSb,qSc,i64_w,i32_w];rfl
                   refine last_ (i:=14) (N:=none) #[true,true,true,true,true,true,true,true,true,true,true,true,true,true,true] rfl rfl (one_of HT_.1 (by kernel_rfl)) (by decide) (fun K hK=>?_);refine skip_ (w1:=?_) (by rfl) rfl ?_ ?_;rotate_left
                   ·go_simp;rfl
                   refine hK.out _ _ ?_;clear hK K;refine done_ (done_of HT_.1 (by kernel_rfl)) ?_;try go_wp2
                   (try simp only [← hl0_2,← hl5_2])
                   (first|go_roundg k2|((try simp only [add_plain] at *);go_roundg k2))
                   case measure=>have:=HK1.1;have:=HK2.1;omega
                   case rel=>exact⟨(y320),(wrap64 (x38_2+1)),qB127,H',⟨by have:=HK1.1;have:=HK2.1;omega⟩,⟨by (try simp only [hl0_1]);(try simp only [hl5_1]);(try simp only [hl0_2]);(try simp only [hl5_2]);(with_reducible repeat(first|apply Kd.R_alloc|apply Kd.R_drewN|apply Kd.R_drew));exact HQ31.1⟩,⟨by (try simp only [hl0_1]);(try simp only [hl5_1]);(try simp only [hl0_2]);(try simp only [hl5_2]);(with_reducible repeat(first|apply Kd.R_alloc|apply Kd.R_drewN|apply Kd.R_drew));exact Kd.R_mono (Kd.R_far (p:=⟨go29,((ji24):Int).toNat,none⟩) (Kd.R_mono HO_5.1 (fun k_ hk=>(⟨hk,fun e_=>hk (by rw [e_];rfl)⟩:_∧k_≠go29))) (fun _ hk=>hk.2) (.int .i64 (wrap64 ((rd x0_2 (ji24)) - (wrap64 ((rd y316 x6_1)*(rd l1 x38_2))))))) (fun _ hk=>hk.1)⟩,⟨by repeat(first|(with_reducible first|exact HB.1|apply below_alloc|apply pw_below_drewN|apply below_drew1|refine below_set ?_ GB29.1)|exact HB.1)⟩⟩
                  ·rw [if_neg c28] at H;exact absurd H (by simp)
                 ·rw [if_neg c27] at H;exact absurd H (by simp)
                ·rw [if_neg c26] at H;exact absurd H (by simp)
               ·rw [if_neg c25] at H;exact absurd H (by simp)
              ·rw [if_neg c23] at H;exact absurd H (by simp)
             ·rw [if_neg c22] at H;exact absurd H (by simp)
            ·rw [if_neg c21] at H;have c21b0:decide (x38_2<(l1.length:Int))=false:=decide_eq_false c21;have c21b0_0:=c21b0
             (try rw [hl0_1] at c21b0_0)
             have c21b0_1:=c21b0
             (try rw [hl5_1] at c21b0_1)
             have c21b0_2:=c21b0
             (try rw [hl0_2] at c21b0_2)
             have c21b0_3:=c21b0
             (try rw [hl5_2] at c21b0_3)
             clear c21;have H':=qAm H;clear H;go_wp2
             (try simp only [← hl0_1,← hl5_1,← hl0_2,← hl5_2])
             (first|go_roundg k2|((try simp only [add_plain] at *);go_roundg k2))
             case measure=>have:=HK1.1;have:=HK2.1;omega
             case rel=>exact⟨(x0_2),(y316),(wrap64 (x6_1 - 1)),qB127,H',⟨by have:=HK1.1;have:=HK2.1;omega⟩,⟨by (try simp only [hl0_1]);(try simp only [hl5_1]);(try simp only [hl0_2]);(try simp only [hl5_2]);(with_reducible repeat(first|apply Kd.R_alloc|apply Kd.R_drewN|apply Kd.R_drew));exact HO_0.1⟩,⟨by (try simp only [hl0_1]);(try simp only [hl5_1]);(try simp only [hl0_2]);(try simp only [hl5_2]);(with_reducible repeat(first|apply Kd.R_alloc|apply Kd.R_drewN|apply Kd.R_drew));exact HO_5.1⟩,⟨by repeat(first|(with_reducible first|exact HB.1|apply below_alloc|apply pw_below_drewN|apply below_drew1)|exact HB.1)⟩⟩
         ·rw [if_neg c17] at H;exact absurd H (by simp)
        ·rw [if_neg c16] at H;exact absurd H (by simp)
       ·rw [if_neg c15] at H;exact absurd H (by simp)
      ·rw [if_neg c14] at H;exact absurd H (by simp)
     ·rw [if_neg c12] at H;have c12b0:decide (0≤x6_1)=false:=decide_eq_false c12;clear c12;obtain rfl:=Option.some.inj H;go_wp2;go_ret;exact⟨_,by first|rfl|(simp [errW_none,errW_some] <;> rfl)|(simp only [← hji4];first|rfl|(simp [errW_none,errW_some] <;> rfl))|(simp [*,errW_none,errW_some] <;> rfl),by (with_reducible repeat(first|apply Kd.R_alloc|apply Kd.R_drewN|apply Kd.R_drew));exact Kd.R_mono HO_5.1 (fun _ hk=>trivial),by repeat(first|(with_reducible first|exact HB.1|apply below_alloc|apply pw_below_drewN|apply below_drew1)|exact HB.1)⟩
  ·rw [if_neg c6] at H;exact absurd H (by simp)
 ·rw [if_neg c5] at H;exact absurd H (by simp)

end Go.Proofs.Ythljmbobccaalaa.PFnExactIsUnit
