/- The functions that the law reaches, as plain functions, each with the proof that the program comes to it; no condition. Written by a program of this session (wip/mp.py) over the printing of the kit; what is marked HAND is told by hand. -/
import Derived.Test.YthljmbobccaalaaPFnExactIsUnitx0
import Derived.Test.YthljmbobccaalaaPFnExactIsUnitx1
import Derived.Test.YthljmbobccaalaaPFnExactIsUnitx4
namespace Go.Proofs.Ythljmbobccaalaa.PFnExactIsUnit
open Go.RowKit Go.Proofs.YthljmbobccaalaaW.PrintWords Go.Proofs.YthljmbobccaalaaW.PrintLast Go.Proofs.YthljmbobccaalaaW.PrintMore
attribute [local go_sem] max2_int min2_int max_two min_two max_three min_three max_four min_four   -- for this text's walks alone
set_option linter.unusedVariables false
set_option linter.unusedSimpArgs false

/-! ### spec_l01Unit: function 70 -/
def spec_l01Unit.f (k:Nat) (a0:Int) (a1:Int):Option (Int×List Int):=if a0=0 then (none) else (if 0≤(wrap64 ((Int.tmod (wrap64 ((Int.tmod a1 a0)+a0)) a0)+1)) then (if (wrap64 ((Int.tmod (wrap64 ((Int.tmod a1 a0)+a0)) a0)+1):Int).toNat≤35184372088832 then ((some (List.replicate (wrap64 ((Int.tmod (wrap64 ((Int.tmod a1 a0)+a0)) a0)+1):Int).toNat 0:List Int)).bind fun y231=>(if 0≤(Int.tmod (wrap64 ((Int.tmod a1 a0)+a0)) a0) then (if (Int.tmod (wrap64 ((Int.tmod a1 a0)+a0)) a0)<(y231.length:Int) then ((spec_l01Reduce.f k a0 (y231.set ((Int.tmod (wrap64 ((Int.tmod a1 a0)+a0)) a0):Int).toNat 1)).bind fun bt235=>(some (bt235.1,bt235.2))) else (none)) else (none))) else (none)) else (none))
theorem spec_l01Unit.mono:∀a0 a1 k,LeO (spec_l01Unit.f k a0 a1) (spec_l01Unit.f (k+1) a0 a1):=by
 intro a0 a1 k;unfold spec_l01Unit.f;repeat' first
   |(with_reducible exact spec_l01Reduce.mono _ _ _)
   |(with_reducible exact LeO.refl _)
   |(with_reducible exact LeO.none _)
   |(with_reducible refine LeO.ite ?_ ?_)
   |(with_reducible refine LeO.bind ?_ (fun _=>?_))
   |exact spec_l01Reduce.mono _ _ _
   |exact LeO.none _
   |refine LeO.ite ?_ ?_
   |refine LeO.bind ?_ (fun _=>?_)
set_option maxHeartbeats 8000000 in
set_option maxRecDepth 100000 in
theorem spec_l01Unit.calls (k:Nat) (a0:Int) (a1:Int) (r1:Int) (r2:List Int) (w:World) (h:spec_l01Unit.f k a0 a1=some (r1,r2)):
  Calls Try.prog 70 #[.int .i64 a0,.int .i64 a1] w fun e w'=>∃v1_:Value,e=.returned (.agg #[.int .i64 r1,v1_])∧Kd.R (Kd.int .i64) 2 w' w.heap.size (fun _=>True) v1_ r2∧Below w.heap.size w w':=by
 have hu26:=Try.underlying26;have HB:=qAm (Below.refl w.heap.size w);have H:(if a0=0 then (none) else (if 0≤(wrap64 ((Int.tmod (wrap64 ((Int.tmod a1 a0)+a0)) a0)+1)) then (if (wrap64 ((Int.tmod (wrap64 ((Int.tmod a1 a0)+a0)) a0)+1):Int).toNat≤35184372088832 then ((some (List.replicate (wrap64 ((Int.tmod (wrap64 ((Int.tmod a1 a0)+a0)) a0)+1):Int).toNat 0:List Int)).bind fun y231=>(if 0≤(Int.tmod (wrap64 ((Int.tmod a1 a0)+a0)) a0) then (if (Int.tmod (wrap64 ((Int.tmod a1 a0)+a0)) a0)<(y231.length:Int) then ((spec_l01Reduce.f k a0 (y231.set ((Int.tmod (wrap64 ((Int.tmod a1 a0)+a0)) a0):Int).toNat 1)).bind fun bt235=>(some (bt235.1,bt235.2))) else (none)) else (none))) else (none)) else (none)))=some (r1,r2):=h;clear h
 by_cases c3:a0=0
 ·rw [if_pos c3] at H;exact absurd H (by simp)
 ·rw [if_neg c3] at H;have c3b0:(a0==0)=false:=beq_eq_false_iff_ne.mpr c3;have c3b1:(a0 !=0)=true:=bne_iff_ne.mpr c3;obtain⟨ji4,hji4⟩:∃j_:Int,(wrap64 ((Int.tmod (wrap64 ((Int.tmod a1 a0)+a0)) a0)+1))=j_:=⟨_,rfl⟩
  replace H:(if 0≤(ji4) then (if (ji4:Int).toNat≤35184372088832 then ((some (List.replicate (ji4:Int).toNat 0:List Int)).bind fun y231=>(if 0≤(Int.tmod (wrap64 ((Int.tmod a1 a0)+a0)) a0) then (if (Int.tmod (wrap64 ((Int.tmod a1 a0)+a0)) a0)<(y231.length:Int) then ((spec_l01Reduce.f k a0 (y231.set ((Int.tmod (wrap64 ((Int.tmod a1 a0)+a0)) a0):Int).toNat 1)).bind fun bt235=>(some (bt235.1,bt235.2))) else (none)) else (none))) else (none)) else (none))=some (r1,r2):=by first|(rw [hji4] at H;exact H)|(simp only [hji4] at H ⊢;exact H)
  have hji4w:(IntKind.i64.wrap ((Int.tmod (wrap64 ((Int.tmod a1 a0)+a0)) a0)+1))=ji4:=(i64_w _).trans hji4
  by_cases c5:0≤(ji4)
  ·rw [if_pos c5] at H;have c5b0:=eq_true c5;have c5b1:decide (0≤(ji4))=true:=decide_eq_true c5;clear c5
   by_cases c6:(ji4:Int).toNat≤35184372088832
   ·rw [if_pos c6] at H;have c6b0:=eq_true c6;have c6b1:decide ((ji4:Int).toNat≤35184372088832)=true:=decide_eq_true c6;clear c6;obtain⟨y231,hy231⟩:∃y_:List Int,y_=(List.replicate (ji4:Int).toNat 0):=⟨_,rfl⟩
    replace H:(if 0≤(Int.tmod (wrap64 ((Int.tmod a1 a0)+a0)) a0) then (if (Int.tmod (wrap64 ((Int.tmod a1 a0)+a0)) a0)<(y231.length:Int) then ((spec_l01Reduce.f k a0 (y231.set ((Int.tmod (wrap64 ((Int.tmod a1 a0)+a0)) a0):Int).toNat 1)).bind fun bt235=>(some (bt235.1,bt235.2))) else (none)) else (none))=some (r1,r2):=by first|(rw [hy231];with_reducible exact H)|(have H2_:=(Option.bind_some _ _).symm.trans H;rw [hy231];with_reducible exact H2_)|(have H2_:=(Option.bind_some _ _).symm.trans H;with_reducible exact H2_)|with_reducible exact H|(rw [hy231];exact H)|exact H
    have Ny231:=qAm hy231;clear hy231;obtain⟨ji7,hji7⟩:∃j_:Int,(Int.tmod (wrap64 ((Int.tmod a1 a0)+a0)) a0)=j_:=⟨_,rfl⟩
    have hji4_ji7:(wrap64 (ji7+1))=ji4:=by rw [← hji7];exact hji4
    have hji4_ji7w:(IntKind.i64.wrap (ji7+1))=ji4:=(i64_w _).trans hji4_ji7;replace H:(if 0≤(ji7) then (if (ji7)<(y231.length:Int) then ((spec_l01Reduce.f k a0 (y231.set ((ji7):Int).toNat 1)).bind fun bt235=>(some (bt235.1,bt235.2))) else (none)) else (none))=some (r1,r2):=by first|(rw [hji7] at H;exact H)|(simp only [hji7] at H ⊢;exact H)
    by_cases c8:0≤(ji7)
    ·rw [if_pos c8] at H;have c8b0:decide (0≤(ji7))=true:=decide_eq_true c8;clear c8
     by_cases c9:(ji7)<(y231.length:Int)
     ·rw [if_pos c9] at H;have c9b0:decide ((ji7)<(y231.length:Int))=true:=decide_eq_true c9;clear c9;obtain⟨y234,hy234⟩:∃y_:List Int,y_=(y231.set ((ji7):Int).toNat 1):=⟨_,rfl⟩
      replace H:((spec_l01Reduce.f k a0 y234).bind fun bt235=>(some (bt235.1,bt235.2)))=some (r1,r2):=by first|(rw [hy234];with_reducible exact H)|(have H2_:=(Option.bind_some _ _).symm.trans H;rw [hy234];with_reducible exact H2_)|(have H2_:=(Option.bind_some _ _).symm.trans H;with_reducible exact H2_)|with_reducible exact H|(rw [hy234];exact H)|exact H
      have Ny234:=qAm hy234;clear hy234;replace H:=qOb H;obtain⟨⟨t235,t236⟩,A110,H⟩:=H;replace H:(some (t235,t236))=some (r1,r2):=H;have A11:=qAm A110;clear A110;simp only [Option.some.injEq,Prod.mk.injEq] at H;obtain⟨rfl,rfl⟩:=H;go_enter Try.func70,Try.ntmps70;go_wp2_with (first|((with_reducible refine gate_dst (N:=4) rfl ?_);refine box_event ?hg (N:=4) ?hd (cs:=#[.int .i64 0,.slice none 0 0]) (t:=26) ?hr ?_;(case hd=>rfl);(case hg=>rfl);(case hr=>first|(go_simp;done)|(go_simp;rfl));intro gb230 hg w12 hbox hb;have n0_:=qAm (below_step qB62 hb);have n1_:=qAm (hbox);have n2_:=qAm ((by rw [hg];exact(below_size qB62):w.heap.size≤gb230));have n3_:=qAm ((by rw [hg];exact(below_size qB62):w.heap.size≤gb230));clear HB;have HB:=n0_;have BK230:=n1_;have GW230:=n2_;have GE230:=n3_;clear n0_ n1_ n2_ n3_;clear hb hbox hg)|((with_reducible refine gate_dst (N:=15) rfl ?_);refine Kd.R_make (Kd.int .i64) _ 2 rfl (N:=15) rfl 22 _ _ rfl ji4 rfl rfl Try.underlying22 (.int .i64 0) 8 info2 rfl (by decide) (by omega) 0 (ok:=fun _=>True) (okp:=fun _=>True) rfl (fun _ hk=>hk) trivial (of_decide_eq_true qB126) (Nat.le_trans (Nat.mul_le_mul_right _ (of_decide_eq_true qB126:ji4.toNat≤35184372088832)) (by omega)) (Below.refl _ _) (Nat.le_refl _) ?_;intro v232 w13 ho14 hb hg_ hnew_;clear hg_ hnew_;(first|rw [← Ny231.1] at ho14|(simp only [Int.reduceToNat] at ho14;rw [← Ny231.1] at ho14));have n0_:=qAm (Kd.R_lower ho14 (below_size qB38));have n1_:=qAm (blk_below (g:=gb230) (o:=.cells #[.int .i64 0,.slice none 0 0] 26 (0,0)) qB77 hb);have n2_:=qAm (below_step qB38 hb);clear BK230;clear HB;have HO233:=n0_;have BK230:=n1_;have HB:=n2_;clear n0_ n1_ n2_;clear hb ho14;have p10:0≤((ji7):Int):=of_decide_eq_true qB126;have q10:((ji7):Int)<((y231.length:Int):Int):=of_decide_eq_true qB126;obtain⟨go10,co10,eo10,gb10,gl10,cl10,HG10⟩:=Kd.R_form HO233.1 (by omega);(first|cases eo10|(injection eo10 with ea_ en_ ec_;(first|subst ea_|(injection ea_ with ea_;subst ea_));subst ec_;clear en_));have GB10:=qAm gb10;have GG10:=qAm HG10;clear gb10 gl10 HG10;obtain⟨hx10_0,hf10_0⟩:=Kd.R_celln 0 HO233.1 ((ji7):Int) p10 q10;replace p10:=eq_true p10;replace q10:=eq_true q10;obtain⟨hy15_,hz15_⟩:=Kd.R_celln 0 HO233.1 ((ji7):Int) (of_decide_eq_true qB126) (of_decide_eq_true qB126);have HP15:=Kd.R_putg HO233.1 ((ji7):Int) 1)|((with_reducible refine gate_store (t:=2) (p:=18) rfl ?_);refine store_event (t:=2) (p:=18) (v:=?vo_w16) (w1:=(w13.setCell ⟨go10,((ji7):Int).toNat,none⟩ (.int .i64 1))) ?hg ?ho ?hn ?hr ?_;(case ho=>rfl);(case hg=>rfl);(case hn=>rfl);(case hr=>first|(go_simp;done)|(go_simp;rfl));intro w16 hw;have hg:w13.grownBy w16 (some go10):=(by rw [hw];exact HP15.2);have hp_:Kd.R (Kd.int .i64) 2 w16 w.heap.size (fun _=>True) (.slice (some ⟨go10,0,none⟩) y231.length co10) y234:=(by rw [hw,Ny234.1];exact HP15.1);clear HP15;have n0_:=qAm (blk_grown (g:=gb230) (o:=.cells #[.int .i64 0,.slice none 0 0] 26 (0,0)) qB77 hg (Kd.R_ne HO233.1 BK230.1 (by decide)));have n1_:=qAm (hp_);have n2_:=qAm ((by rw [hw];exact below_set (HB.1) GB10.1:Below w.heap.size w w16));clear BK230;clear HO233;clear HB;have BK230:=n0_;have HO233:=n1_;have HB:=n2_;clear n0_ n1_ n2_;clear hg hw hp_)|((with_reducible refine gate_callee (f:=83) rfl ?_);refine goesL_ (some 21) rfl rfl Try.func83 (by kernel_rfl) rfl #[.int .i64 a0,.slice (some ⟨go10,0,none⟩) y234.length co10] rfl (by (try simp only [List.map_toArray,List.map_cons,List.map_nil]);first|done|(rw [show y234.length=y231.length from (Kd.R_reads' HO233.1).1.symm] <;> rfl)|rfl|(simp only [List.length_drop,List.length_take];rfl)) ?_;(with_reducible refine(spec_l01Reduce.calls k a0 _ _ y234 t235 t236 _ ?side1 ?side2 A11.1).mono ?_);(case side1=>repeat(first|exact(Kd.R_reads' HO233.1).2.2|(with_reducible refine Kd.C_alloc ?_ _)|(with_reducible refine Kd.C_drewN ?_ _)|(with_reducible refine Kd.C_drew ?_)));(case side2=>rw [show y234.length=y231.length from (Kd.R_reads' HO233.1).1.symm];exact(Kd.R_reads' HO233.1).2.1);rintro e w17 ⟨v237,rfl,ho0,hb⟩;refine⟨_,rfl,?_⟩;have n0_:=qAm (Kd.R_elder' qB104 (Kd.R_base ho0) hb);have n1_:=qAm (Kd.R_lower (Kd.R_new' ho0 (Kd.R_lt qB104)) (below_size qB38));have n2_:=qAm (blk_below (g:=gb230) (o:=.cells #[.int .i64 0,.slice none 0 0] 26 (0,0)) qB77 hb);have n3_:=qAm (below_step qB38 hb);clear HO233;clear BK230;clear HB;have HO233:=n0_;have HO238:=n1_;have BK230:=n2_;have HB:=n3_;clear n0_ n1_ n2_ n3_;(try clear hb);(try clear hb2);(try clear hk);(try clear hi);(try clear ho0);have hcz18_0:w17.cell? ⟨gb230,0,none⟩=some (.int .i64 0):=(blk_cell BK230.1 0).trans rfl;have hcz18_1:w17.cell? ⟨gb230,1,none⟩=some (.slice none 0 0):=(blk_cell BK230.1 1).trans rfl;have hfz18_0:=blk_frozen BK230.1 0;have hfz18_1:=blk_frozen BK230.1 1;obtain⟨Ao19,co19,eo19⟩:=Kd.R_slice HO238.1;subst eo19));refine bodyPost_ret (results_cell_row rfl _ _ gb230 26 #[.int .i64 t235,.slice Ao19 t236.length co19] (0,0) _ rfl (by (with_reducible repeat(first|refine blk_drewN ?_ _|refine blk_drew ?_|refine blk_alloc ?_ _));refine blk_put (cs:=#[.int .i64 t235,.slice none 0 0]) ?_ 1 _ rfl;(with_reducible repeat(first|refine blk_drewN ?_ _|refine blk_drew ?_|refine blk_alloc ?_ _));refine blk_put (cs:=#[.int .i64 0,.slice none 0 0]) ?_ 0 _ rfl;(with_reducible repeat(first|refine blk_drewN ?_ _|refine blk_drew ?_|refine blk_alloc ?_ _));exact BK230.1) Try.underlying26 rfl (by kernel_rfl)) rfl ?_;exact⟨_,by first|rfl|(simp [errW_none,errW_some] <;> rfl)|(simp only [← hji4,← hji7];first|rfl|(simp [errW_none,errW_some] <;> rfl))|(simp [*,errW_none,errW_some] <;> rfl),by (with_reducible repeat(first|apply Kd.R_alloc|apply Kd.R_drewN|apply Kd.R_drew));exact Kd.R_mono (Kd.R_far (p:=⟨gb230,1,none⟩) (Kd.R_far (p:=⟨gb230,0,none⟩) (Kd.R_types HO238.1 BK230.1 (by decide)) (fun _ hk=>hk.2) (.int .i64 t235)) (fun _ hk=>hk.2) (.slice Ao19 t236.length co19)) (fun _ hk=>trivial),by repeat(first|(with_reducible first|exact HB.1|apply below_alloc|apply pw_below_drewN|apply below_drew1|refine below_set ?_ GE230.1)|exact HB.1)⟩
     ·rw [if_neg c9] at H;exact absurd H (by simp)
    ·rw [if_neg c8] at H;exact absurd H (by simp)
   ·rw [if_neg c6] at H;exact absurd H (by simp)
  ·rw [if_neg c5] at H;exact absurd H (by simp)

/-! ### spec_l01One: function 45 -/
def spec_l01One.f (k:Nat) (a0:Int):Option (Int×List Int):=(spec_l01Unit.f k a0 0).bind fun bt240=>(some (bt240.1,bt240.2))
theorem spec_l01One.mono:∀a0 k,LeO (spec_l01One.f k a0) (spec_l01One.f (k+1) a0):=by
 intro a0 k;unfold spec_l01One.f;repeat' first
   |(with_reducible exact spec_l01Unit.mono _ _ _)
   |(with_reducible exact LeO.refl _)
   |(with_reducible exact LeO.none _)
   |(with_reducible refine LeO.ite ?_ ?_)
   |(with_reducible refine LeO.bind ?_ (fun _=>?_))
   |exact spec_l01Unit.mono _ _ _
   |exact LeO.none _
   |refine LeO.ite ?_ ?_
   |refine LeO.bind ?_ (fun _=>?_)
set_option maxHeartbeats 8000000 in
set_option maxRecDepth 100000 in
theorem spec_l01One.calls (k:Nat) (a0:Int) (r1:Int) (r2:List Int) (w:World) (h:spec_l01One.f k a0=some (r1,r2)):
  Calls Try.prog 45 #[.int .i64 a0] w fun e w'=>∃v1_:Value,e=.returned (.agg #[.int .i64 r1,v1_])∧Kd.R (Kd.int .i64) 2 w' w.heap.size (fun _=>True) v1_ r2∧Below w.heap.size w w':=by
 have hu26:=Try.underlying26;have HB:=qAm (Below.refl w.heap.size w);have H:((spec_l01Unit.f k a0 0).bind fun bt240=>(some (bt240.1,bt240.2)))=some (r1,r2):=h;clear h;replace H:=qOb H;obtain⟨⟨t240,t241⟩,A20,H⟩:=H;replace H:(some (t240,t241))=some (r1,r2):=H;have A2:=qAm A20;clear A20;simp only [Option.some.injEq,Prod.mk.injEq] at H;obtain⟨rfl,rfl⟩:=H;go_enter Try.func45,Try.ntmps45;go_wp2_with (first|((with_reducible refine gate_dst (N:=2) rfl ?_);refine box_event ?hg (N:=2) ?hd (cs:=#[.int .i64 0,.slice none 0 0]) (t:=26) ?hr ?_;(case hd=>rfl);(case hg=>rfl);(case hr=>first|(go_simp;done)|(go_simp;rfl));intro gb239 hg w3 hbox hb;have n0_:=qAm (below_step qB62 hb);have n1_:=qAm (hbox);have n2_:=qAm ((by rw [hg];exact(below_size qB62):w.heap.size≤gb239));have n3_:=qAm ((by rw [hg];exact(below_size qB62):w.heap.size≤gb239));clear HB;have HB:=n0_;have BK239:=n1_;have GW239:=n2_;have GE239:=n3_;clear n0_ n1_ n2_ n3_;clear hb hbox hg)|((with_reducible refine gate_callee (f:=70) rfl ?_);refine goesL_ (some 4) rfl rfl Try.func70 (by kernel_rfl) rfl #[.int .i64 a0,.int .i64 0] rfl qB60 ?_;(with_reducible refine(spec_l01Unit.calls k a0 0 t240 t241 _ A2.1).mono ?_);rintro e w4 ⟨v242,rfl,ho0,hb⟩;refine⟨_,rfl,?_⟩;have n0_:=qAm (Kd.R_lower ho0 (below_size qB39));have n1_:=qAm (blk_below (g:=gb239) (o:=.cells #[.int .i64 0,.slice none 0 0] 26 (0,0)) (by (with_reducible repeat(first|refine blk_drewN ?_ _|refine blk_drew ?_|refine blk_alloc ?_ _));exact BK239.1) hb);have n2_:=qAm (below_step qB39 hb);clear BK239;clear HB;have HO243:=n0_;have BK239:=n1_;have HB:=n2_;clear n0_ n1_ n2_;(try clear hb);(try clear hb2);(try clear hk);(try clear hi);(try clear ho0);have hcz5_0:w4.cell? ⟨gb239,0,none⟩=some (.int .i64 0):=(blk_cell BK239.1 0).trans rfl;have hcz5_1:w4.cell? ⟨gb239,1,none⟩=some (.slice none 0 0):=(blk_cell BK239.1 1).trans rfl;have hfz5_0:=blk_frozen BK239.1 0;have hfz5_1:=blk_frozen BK239.1 1;obtain⟨Ao6,co6,eo6⟩:=Kd.R_slice HO243.1;subst eo6));refine bodyPost_ret (results_cell_row rfl _ _ gb239 26 #[.int .i64 t240,.slice Ao6 t241.length co6] (0,0) _ rfl (by (with_reducible repeat(first|refine blk_drewN ?_ _|refine blk_drew ?_|refine blk_alloc ?_ _));refine blk_put (cs:=#[.int .i64 t240,.slice none 0 0]) ?_ 1 _ rfl;(with_reducible repeat(first|refine blk_drewN ?_ _|refine blk_drew ?_|refine blk_alloc ?_ _));refine blk_put (cs:=#[.int .i64 0,.slice none 0 0]) ?_ 0 _ rfl;(with_reducible repeat(first|refine blk_drewN ?_ _|refine blk_drew ?_|refine blk_alloc ?_ _));exact BK239.1) Try.underlying26 rfl (by kernel_rfl)) rfl ?_;exact⟨_,by first|rfl|(simp [errW_none,errW_some] <;> rfl)|(simp [*,errW_none,errW_some] <;> rfl),by (with_reducible repeat(first|apply Kd.R_alloc|apply Kd.R_drewN|apply Kd.R_drew));exact Kd.R_mono (Kd.R_far (p:=⟨gb239,1,none⟩) (Kd.R_far (p:=⟨gb239,0,none⟩) (Kd.R_types HO243.1 BK239.1 (by decide)) (fun _ hk=>hk.2) (.int .i64 t240)) (fun _ hk=>hk.2) (.slice Ao6 t241.length co6)) (fun _ hk=>trivial),by repeat(first|(with_reducible first|exact HB.1|apply below_alloc|apply pw_below_drewN|apply below_drew1|refine below_set ?_ GE239.1)|exact HB.1)⟩

/-! ### spec_l01Galois: function 73 -/
def spec_l01Galois.l0:Nat→Int→Int→List Int→Int→Int→List Int→Option (Int×List Int)
 |0,_,_,_,_,_,_=>none
 |k+1,x1,x5,x6,x7,x245000,x245001=>if x7<(x245001.length:Int) then (if x5=0 then (none) else (if 0≤(Int.tmod (wrap64 ((Int.tmod (wrap64 (x7*x1)) x5)+x5)) x5) then (if (Int.tmod (wrap64 ((Int.tmod (wrap64 (x7*x1)) x5)+x5)) x5)<(x6.length:Int) then (if 0≤x7 then (spec_l01Galois.l0 k x1 x5 (x6.set ((Int.tmod (wrap64 ((Int.tmod (wrap64 (x7*x1)) x5)+x5)) x5):Int).toNat (wrap64 ((rd x6 (Int.tmod (wrap64 ((Int.tmod (wrap64 (x7*x1)) x5)+x5)) x5))+(rd x245001 x7)))) (wrap64 (x7+1)) x245000 x245001) else (none)) else (none)) else (none))) else ((spec_l01Reduce.f k x5 x6).bind fun bt252=>(some (bt252.1,bt252.2)))
def spec_l01Galois.f (k:Nat) (a0_0:Int) (l0_1:List Int) (a1:Int):Option (Int×List Int):=if 0≤a0_0 then (if (a0_0:Int).toNat≤35184372088832 then (spec_l01Galois.l0 k a1 a0_0 (List.replicate (a0_0:Int).toNat 0) 0 a0_0 l0_1) else (none)) else (none)
theorem spec_l01Galois.mono_l:∀k,(∀y0 y1 y2 y3 y4 y5,LeO (spec_l01Galois.l0 k y0 y1 y2 y3 y4 y5) (spec_l01Galois.l0 (k+1) y0 y1 y2 y3 y4 y5))
 |0=>fun _ _ _ _ _ _ r h=>by simp [spec_l01Galois.l0] at h
 |k+1=>by
  have ih0:=spec_l01Galois.mono_l k
  ·intro y0 y1 y2 y3 y4 y5;unfold spec_l01Galois.l0;repeat' first
   |(with_reducible exact ih0 _ _ _ _ _ _)
   |(with_reducible exact spec_l01Reduce.mono _ _ _)
   |(with_reducible exact LeO.refl _)
   |(with_reducible exact LeO.none _)
   |(with_reducible refine LeO.ite ?_ ?_)
   |(with_reducible refine LeO.bind ?_ (fun _=>?_))
   |exact ih0 _ _ _ _ _ _
   |exact spec_l01Reduce.mono _ _ _
   |exact LeO.none _
   |refine LeO.ite ?_ ?_
   |refine LeO.bind ?_ (fun _=>?_)
theorem spec_l01Galois.mono:∀a0 a1 a2 k,LeO (spec_l01Galois.f k a0 a1 a2) (spec_l01Galois.f (k+1) a0 a1 a2):=by
 intro a0 a1 a2 k;have ih0:=spec_l01Galois.mono_l k;unfold spec_l01Galois.f;repeat' first
   |(with_reducible exact ih0 _ _ _ _ _ _)
   |(with_reducible exact spec_l01Reduce.mono _ _ _)
   |(with_reducible exact LeO.refl _)
   |(with_reducible exact LeO.none _)
   |(with_reducible refine LeO.ite ?_ ?_)
   |(with_reducible refine LeO.bind ?_ (fun _=>?_))
   |exact ih0 _ _ _ _ _ _
   |exact spec_l01Reduce.mono _ _ _
   |exact LeO.none _
   |refine LeO.ite ?_ ?_
   |refine LeO.bind ?_ (fun _=>?_)
def spec_l01Galois.T7:Bool×List (List Nat×List Nat):=(true,[([],[]),([],[]),([],[]),([],[]),([2,3],[2,3]),([4],[4]),([],[]),([6],[6]),([],[]),([7,8],[7,8]),([9],[9]),([5,10],[5,10]),([0,1,0,1,2,3,4,5,6,7,8,9,10,11],[0,1]),([12,11,0,1,2,3,4,5,6,7,8,9,10,11],[11,12])])
def spec_l01Galois.B7:List Nat:=[0,0,0,0,12,28,0,64,0,448,960,2044,4095,8191]
theorem spec_l01Galois.tab7:rtab .any (opsOf Try.f73 7)=spec_l01Galois.T7:=by kernel_rfl
theorem spec_l01Galois.bits7:waitsOk spec_l01Galois.T7.2 spec_l01Galois.B7=true:=by kernel_rfl
set_option maxHeartbeats 8000000 in
set_option maxRecDepth 100000 in
theorem spec_l01Galois.calls (k:Nat) (a0_0:Int) (A0_1:Option Addr) (c0_1:Nat) (l0_1:List Int) (a1:Int) (r1:Int) (r2:List Int) (w:World) (hr0_1:Kd.C (Kd.int .i64) w A0_1 l0_1.length l0_1) (hc0_1:l0_1.length≤c0_1) (h:spec_l01Galois.f k a0_0 l0_1 a1=some (r1,r2)):
  Calls Try.prog 73 #[.agg #[.int .i64 a0_0,.slice A0_1 l0_1.length c0_1],.int .i64 a1] w fun e w'=>∃v1_:Value,e=.returned (.agg #[.int .i64 r1,v1_])∧Kd.R (Kd.int .i64) 2 w' w.heap.size (fun _=>True) v1_ r2∧Below w.heap.size w w':=by
 have hu26:=Try.underlying26;have HR0_1:=qAm hr0_1;have HC0_1:=qAm hc0_1;clear hr0_1 hc0_1;have HB:=qAm (Below.refl w.heap.size w);have H:(if 0≤a0_0 then (if (a0_0:Int).toNat≤35184372088832 then (spec_l01Galois.l0 k a1 a0_0 (List.replicate (a0_0:Int).toNat 0) 0 a0_0 l0_1) else (none)) else (none))=some (r1,r2):=h;clear h
 by_cases c3:0≤a0_0
 ·rw [if_pos c3] at H;have c3b0:=eq_true c3;have c3b1:decide (0≤a0_0)=true:=decide_eq_true c3;clear c3
  by_cases c4:(a0_0:Int).toNat≤35184372088832
  ·rw [if_pos c4] at H;have c4b0:=eq_true c4;have c4b1:decide ((a0_0:Int).toNat≤35184372088832)=true:=decide_eq_true c4;clear c4;obtain⟨y246,hy246⟩:∃y_:List Int,y_=(List.replicate (a0_0:Int).toNat 0):=⟨_,rfl⟩
   replace H:(spec_l01Galois.l0 k a1 a0_0 y246 0 a0_0 l0_1)=some (r1,r2):=by first|(rw [hy246];with_reducible exact H)|(have H2_:=(Option.bind_some _ _).symm.trans H;rw [hy246];with_reducible exact H2_)|(have H2_:=(Option.bind_some _ _).symm.trans H;with_reducible exact H2_)|with_reducible exact H|(rw [hy246];exact H)|exact H
   have Ny246:=qAm hy246;clear hy246;have H':=qAm H;clear H;go_enter Try.func73,Try.ntmps73;go_wp2_with (first|((with_reducible refine gate_dst (N:=2) rfl ?_);refine box_event ?hg (N:=2) ?hd (cs:=#[.int .i64 a0_0,.slice A0_1 l0_1.length c0_1]) (t:=26) ?hr ?_;(case hd=>rfl);(case hg=>rfl);(case hr=>first|(go_simp;done)|(go_simp;rfl));intro gb244 hg w5 hbox hb;have n0_:=qAm (below_step qB62 hb);have n1_:=qAm (hbox);have n2_:=qAm ((by rw [hg];exact(below_size qB62):w.heap.size≤gb244));have n3_:=qAm ((by rw [hg];exact(below_size qB62):w.heap.size≤gb244));clear HB;have HB:=n0_;have BK244:=n1_;have GW244:=n2_;have GE244:=n3_;clear n0_ n1_ n2_ n3_;clear hb hbox hg)|((with_reducible refine gate_dst (N:=4) rfl ?_);refine box_event ?hg (N:=4) ?hd (cs:=#[.int .i64 0,.slice none 0 0]) (t:=26) ?hr ?_;(case hd=>rfl);(case hg=>rfl);(case hr=>first|(go_simp;done)|(go_simp;rfl));intro gb245 hg w6 hbox hb;have n0_:=qAm (blk_below (g:=gb244) (o:=.cells #[.int .i64 a0_0,.slice A0_1 l0_1.length c0_1] 26 (0,0)) qB78 hb);have n1_:=qAm (below_step qB40 hb);have n2_:=qAm (hbox);have n3_:=qAm ((by rw [hg];exact(below_size qB40):w.heap.size≤gb245));have n4_:=qAm ((by rw [hg];exact(below_size qB40):w.heap.size≤gb245));have n5_:=qAm ((by rw [hg];exact Nat.ne_of_lt (blk_lt (g:=gb244) (o:=.cells #[.int .i64 a0_0,.slice A0_1 l0_1.length c0_1] 26 (0,0)) qB78):gb244≠gb245));have n6_:=qAm ((by rw [hg];exact Nat.ne_of_gt (blk_lt (g:=gb244) (o:=.cells #[.int .i64 a0_0,.slice A0_1 l0_1.length c0_1] 26 (0,0)) qB78):gb245≠gb244));clear BK244;clear HB;have BK244:=n0_;have HB:=n1_;have BK245:=n2_;have GW245:=n3_;have GE245:=n4_;have NB244_245:=n5_;have NB245_244:=n6_;clear n0_ n1_ n2_ n3_ n4_ n5_ n6_;clear hb hbox hg;have hnb7:=NB244_245.1;have hnc7:=NB245_244.1;have hcz8_0:w6.cell? ⟨gb244,0,none⟩=some (.int .i64 a0_0):=(blk_cell BK244.1 0).trans rfl;have hcz8_1:w6.cell? ⟨gb244,1,none⟩=some (.slice A0_1 l0_1.length c0_1):=(blk_cell BK244.1 1).trans rfl;have hfz8_0:=blk_frozen BK244.1 0;have hfz8_1:=blk_frozen BK244.1 1)|((with_reducible refine gate_dst (N:=12) rfl ?_);refine Kd.R_make (Kd.int .i64) _ 2 rfl (N:=12) rfl 22 _ _ rfl a0_0 rfl rfl Try.underlying22 (.int .i64 0) 8 info2 rfl (by decide) (by omega) 0 (ok:=fun _=>True) (okp:=fun _=>True) rfl (fun _ hk=>hk) trivial (of_decide_eq_true qB126) (Nat.le_trans (Nat.mul_le_mul_right _ (of_decide_eq_true qB126:a0_0.toNat≤35184372088832)) (by omega)) (Below.refl _ _) (Nat.le_refl _) ?_;intro v247 w9 ho10 hb hg_ hnew_;clear hg_ hnew_;(first|rw [← Ny246.1] at ho10|(simp only [Int.reduceToNat] at ho10;rw [← Ny246.1] at ho10));have n0_:=qAm (Kd.R_lower ho10 (below_size qB25));have n1_:=qAm (blk_below (g:=gb244) (o:=.cells #[.int .i64 a0_0,.slice A0_1 l0_1.length c0_1] 26 (0,0)) qB78 hb);have n2_:=qAm (blk_below (g:=gb245) (o:=.cells #[.int .i64 0,.slice none 0 0] 26 (0,0)) qB79 hb);have n3_:=qAm (below_step qB25 hb);clear BK244;clear BK245;clear HB;have HO248:=n0_;have BK244:=n1_;have BK245:=n2_;have HB:=n3_;clear n0_ n1_ n2_ n3_;clear hb ho10));try simp only [Act.put,qSa,qSc,qSb]
   go_loopg [7] k (fun kq v7 w'=>∃(x6_1:List Int) (x7_1:Int),v7=.int .i64 x7_1∧Aside0 (spec_l01Galois.l0 kq a1 a0_0 x6_1 x7_1 a0_0 l0_1=some (r1,r2))∧Aside0 (kq≤k)∧Aside0 (Kd.R (Kd.int .i64) 2 w' w.heap.size (fun _=>True) v247 x6_1)∧Aside0 (w'.heap[gb244]? =some (.cells #[.int .i64 a0_0,(.slice A0_1 l0_1.length c0_1)] 26 (0,0)))∧Aside0 (w'.heap[gb245]? =some (.cells #[.int .i64 0,(.slice none 0 0)] 26 (0,0)))∧Aside0 (Below w.heap.size w w'))
   case atStart=>exact⟨(y246),(0),qB127,H',⟨Nat.le_refl _⟩,⟨by (with_reducible repeat(first|apply Kd.R_alloc|apply Kd.R_drewN|apply Kd.R_drew));exact HO248.1⟩,⟨by (with_reducible repeat(first|refine blk_drewN ?_ _|refine blk_drew ?_|refine blk_alloc ?_ _));exact BK244.1⟩,⟨by (with_reducible repeat(first|refine blk_drewN ?_ _|refine blk_drew ?_|refine blk_alloc ?_ _));exact BK245.1⟩,⟨by repeat(first|(with_reducible first|exact HB.1|apply below_alloc|apply pw_below_drewN|apply below_drew1|refine below_set ?_ GE244.1|refine below_set ?_ GE245.1)|exact HB.1)⟩⟩
   case round=>
    clear H';try clear p2
    try clear c3
    try clear c3b0
    try clear c3b1
    try clear c4
    try clear c4b0
    try clear c4b1
    try clear c7
    try clear hcz8_0
    try clear hcz8_1
    try clear hfz8_0
    try clear hfz8_1
    obtain⟨x6_1,x7_1,rfl,HA,HK1,HO_6,BK244,BK245,HB⟩:=hrel;cases gk with
    |zero=>exact absurd HA.1 (by simp [spec_l01Galois.l0])
    |succ k1=>
     have H:=HA.1;clear HA;simp only [spec_l01Galois.l0] at H
     by_cases c11:x7_1<(l0_1.length:Int)
     ·rw [if_pos c11] at H;have c11b0:decide (x7_1<(l0_1.length:Int))=true:=decide_eq_true c11;clear c11
      by_cases c12:a0_0=0
      ·rw [if_pos c12] at H;exact absurd H (by simp)
      ·rw [if_neg c12] at H;have c12b0:(a0_0==0)=false:=beq_eq_false_iff_ne.mpr c12;have c12b1:(a0_0 !=0)=true:=bne_iff_ne.mpr c12;obtain⟨ji13,hji13⟩:∃j_:Int,(Int.tmod (wrap64 ((Int.tmod (wrap64 (x7_1*a1)) a0_0)+a0_0)) a0_0)=j_:=⟨_,rfl⟩
       replace H:(if 0≤(ji13) then (if (ji13)<(x6_1.length:Int) then (if 0≤x7_1 then (spec_l01Galois.l0 k1 a1 a0_0 (x6_1.set ((ji13):Int).toNat (wrap64 ((rd x6_1 (ji13))+(rd l0_1 x7_1)))) (wrap64 (x7_1+1)) a0_0 l0_1) else (none)) else (none)) else (none))=some (r1,r2):=by first|(rw [hji13] at H;exact H)|(simp only [hji13] at H ⊢;exact H)
       by_cases c14:0≤(ji13)
       ·rw [if_pos c14] at H;have c14b0:decide (0≤(ji13))=true:=decide_eq_true c14;clear c14
        by_cases c15:(ji13)<(x6_1.length:Int)
        ·rw [if_pos c15] at H;have c15b0:decide ((ji13)<(x6_1.length:Int))=true:=decide_eq_true c15;clear c15
         by_cases c16:0≤x7_1
         ·rw [if_pos c16] at H;have c16b0:decide (0≤x7_1)=true:=decide_eq_true c16;clear c16;obtain⟨y251,hy251⟩:∃y_:List Int,y_=(x6_1.set ((ji13):Int).toNat (wrap64 ((rd x6_1 (ji13))+(rd l0_1 x7_1)))):=⟨_,rfl⟩
          replace H:(spec_l01Galois.l0 k1 a1 a0_0 y251 (wrap64 (x7_1+1)) a0_0 l0_1)=some (r1,r2):=by first|(rw [hy251];with_reducible exact H)|(have H2_:=(Option.bind_some _ _).symm.trans H;rw [hy251];with_reducible exact H2_)|(have H2_:=(Option.bind_some _ _).symm.trans H;with_reducible exact H2_)|with_reducible exact H|(rw [hy251];exact H)|exact H
          have Ny251:=qAm hy251;clear hy251;have H':=qAm H;clear H;have hnb18:=NB244_245.1;have hnc18:=NB245_244.1;have hcz19_0:wr.cell? ⟨gb244,0,none⟩=some (.int .i64 a0_0):=(blk_cell BK244.1 0).trans rfl;have hcz19_1:wr.cell? ⟨gb244,1,none⟩=some (.slice A0_1 l0_1.length c0_1):=(blk_cell BK244.1 1).trans rfl;have hfz19_0:=blk_frozen BK244.1 0;have hfz19_1:=blk_frozen BK244.1 1;try go_wp2
          have n0_:=qAm (Kd.R_drew HO_6.1);have n1_:=qAm (blk_drew BK244.1);have n2_:=qAm (blk_drew BK245.1);have n3_:=qAm (below_drew1 HB.1);clear HO_6 BK244 BK245 HB;have HO_6:=n0_;have BK244:=n1_;have BK245:=n2_;have HB:=n3_;clear n0_ n1_ n2_ n3_;obtain⟨Ao21,co21,eo21⟩:=Kd.R_slice HO_6.1
          (first|subst eo21|(injection eo21 with f1_ f2_ f3_;have f4_:=f1_.symm;have f5_:=f3_.symm;clear f1_ f2_ f3_;subst f4_;subst f5_))
          have p249:0≤((ji13):Int):=of_decide_eq_true qB126;have q249:(ji13)<(x6_1.length:Int):=of_decide_eq_true qB126;obtain⟨ad249,e249,hx249_0⟩:=Kd.at_int (Kd.R_reads' HO_6.1).2.2 (ji13) p249 q249;cases e249
          replace p249:=eq_true p249;replace q249:=eq_true q249;have p250:0≤(x7_1:Int):=of_decide_eq_true qB126;have q250:x7_1<(l0_1.length:Int):=of_decide_eq_true qB126;obtain⟨ad250,e250,hx250_0⟩:=Kd.at_int HR0_1.1 x7_1 p250 q250;have hw250_0:=hx250_0;cases e250
          replace hx250_0:=(HB.1.cell (World.block_lt_of_cell? w _ hx250_0)).trans hx250_0;replace p250:=eq_true p250;replace q250:=eq_true q250;have p17:0≤((ji13):Int):=of_decide_eq_true qB126;have q17:((ji13):Int)<((x6_1.length:Int):Int):=of_decide_eq_true qB126;obtain⟨go17,co17,eo17,gb17,gl17,cl17,HG17⟩:=Kd.R_form HO_6.1 (by omega)
          (first|cases eo17|(injection eo17 with ea_ en_ ec_;(first|subst ea_|(injection ea_ with ea_;subst ea_));subst ec_;clear en_))
          have GB17:=qAm gb17;have GG17:=qAm HG17;clear gb17 gl17 HG17
          (first|simp only [add_plain] at hx249_0|skip)
          obtain⟨hx17_0,hf17_0⟩:=Kd.R_celln 0 HO_6.1 ((ji13):Int) p17 q17;replace p17:=eq_true p17;replace q17:=eq_true q17;have HP22:=Kd.R_putn HO_6.1 ((ji13):Int) (wrap64 ((rd x6_1 (ji13))+(rd l0_1 x7_1)));rw [← Ny251.1] at HP22;have HQ22:=qAm HP22;clear HP22;refine start_ (n:=14) (S:=fun w'=>w'.cell? ⟨gb244,0,none⟩=some (.int .i64 a0_0)∧w'.cell? ⟨gb244,1,none⟩=some (.slice (some ad250) l0_1.length c0_1)∧w'.cell? ⟨go17,((ji13)).toNat,none⟩=some (.int .i64 (rd x6_1 (ji13)))∧w'.cell? (ad250.add (x7_1).toNat)=some (.int .i64 (rd l0_1 x7_1))) (ds:=[13]) #[false,false,false,false,false,false,false,false,false,false,false,false,false,false] (by kernel_rfl) rfl rfl ⟨(blk_cell BK244.1 0).trans rfl,(blk_cell BK244.1 1).trans rfl,hx249_0,((HB.1.cell (World.block_lt_of_cell? w _ hw250_0)).trans hw250_0)⟩ (fun hHeld=>?_);refine with_tabW spec_l01Galois.tab7 spec_l01Galois.bits7 (fun HT_ HW_=>?_);generalize wr.drew=w20 at HO_6 BK244 BK245 HB GG17 HQ22 hf17_0 hx17_0 hx249_0 hx250_0 hHeld ⊢;refine pure_ (i:=0) (N:=some 29) (v:=?_) (a':=?_) #[true,false,false,false,false,false,false,false,false,false,false,false,false,false] rfl rfl (any_of HT_.1 (by kernel_rfl)) (fun _ _ _ h=>h) (Or.inl ⟨by rfl,?_⟩) ?_ ?_;rotate_left
          ·intro w';go_simp;with_reducible rfl
          rotate_left
          ·simp only [Act.put,qSa,qSb,qSc,i64_w,i32_w];rfl
          refine pure_ (i:=1) (N:=some 30) (v:=?_) (a':=?_) #[true,true,false,false,false,false,false,false,false,false,false,false,false,false] rfl rfl (any_of HT_.1 (by kernel_rfl)) (fun _ _ _ h=>h) (Or.inl ⟨by rfl,?_⟩) ?_ ?_;rotate_left
          ·intro w';go_simp;with_reducible rfl
          rotate_left
          ·simp only [Act.put,qSa,qSb,qSc,i64_w,i32_w];rfl
          refine pure_ (i:=2) (N:=some 31) (v:=?_) (a':=?_) #[true,true,true,false,false,false,false,false,false,false,false,false,false,false] rfl rfl (any_of HT_.1 (by kernel_rfl)) (fun _ _ _ h=>h) (Or.inl ⟨by rfl,?_⟩) ?_ ?_;rotate_left
          ·intro w';go_simp;with_reducible rfl
          rotate_left
          ·simp only [Act.put,qSa,qSb,qSc,i64_w,i32_w];rfl
          refine pure_ (i:=3) (N:=some 32) (v:=?_) (a':=?_) #[true,true,true,true,false,false,false,false,false,false,false,false,false,false] rfl rfl (any_of HT_.1 (by kernel_rfl)) (fun _ _ _ h=>h) (Or.inl ⟨by rfl,?_⟩) ?_ ?_;rotate_left
          ·intro w';go_simp;with_reducible rfl
          rotate_left
          ·simp only [Act.put,qSa,qSb,qSc,i64_w,i32_w];rfl
          refine pure_ (i:=4) (N:=some 33) (v:=?_) (a':=?_) #[true,true,true,true,true,false,false,false,false,false,false,false,false,false] rfl rfl (any_of HT_.1 (by kernel_rfl)) (fun _ _ _ h=>h) (Or.inl ⟨by rfl,?_⟩) ?_ ?_;rotate_left
          ·intro w';go_simp;with_reducible rfl
          rotate_left
          ·simp only [Act.put,qSa,qSb,qSc,i64_w,i32_w];rfl
          refine pure_ (i:=6) (N:=some 35) (v:=?_) (a':=?_) #[true,true,true,true,true,false,true,false,false,false,false,false,false,false] rfl rfl (any_of HT_.1 (by kernel_rfl)) (fun _ _ _ h=>h) (Or.inl ⟨by rfl,?_⟩) ?_ ?_;rotate_left
          ·intro w';go_simp;with_reducible rfl
          rotate_left
          ·simp only [Act.put,qSa,qSb,qSc,i64_w,i32_w];rfl
          refine pure_ (i:=8) (N:=some 37) (v:=?_) (a':=?_) #[true,true,true,true,true,false,true,false,true,false,false,false,false,false] rfl rfl (any_of HT_.1 (by kernel_rfl)) (fun _ _ _ h=>h) (Or.inl ⟨by rfl,?_⟩) ?_ ?_;rotate_left
          ·intro w';go_simp;with_reducible rfl
          rotate_left
          ·simp only [Act.put,qSa,qSb,qSc,i64_w,i32_w];rfl
          refine take_ (i:=5) (N:=some 34) (v:=?_) (a':=?_) #[true,true,true,true,true,true,true,false,true,false,false,false,false,false] rfl rfl (take_ofW HT_.1 HW_.1 (by kernel_rfl)) (fun _ _ _ h=>h) (Or.inl ⟨by rfl,?_⟩) hHeld ?_ ?_;rotate_left
          ·rintro w' ⟨s0,s1,s2,s3⟩;go_simp;with_reducible rfl
          rotate_left
          ·simp only [Act.put,qSa,qSb,qSc,i64_w,i32_w];rfl
          refine take_ (i:=7) (N:=some 36) (v:=?_) (a':=?_) #[true,true,true,true,true,true,true,true,true,false,false,false,false,false] rfl rfl (take_ofW HT_.1 HW_.1 (by kernel_rfl)) (fun _ _ _ h=>h) (Or.inl ⟨by rfl,?_⟩) hHeld ?_ ?_;rotate_left
          ·rintro w' ⟨s0,s1,s2,s3⟩;go_simp;with_reducible rfl
          rotate_left
          ·simp only [Act.put,qSa,qSb,qSc,i64_w,i32_w];rfl
          refine pure_ (i:=9) (N:=some 38) (v:=?_) (a':=?_) #[true,true,true,true,true,true,true,true,true,true,false,false,false,false] rfl rfl (any_of HT_.1 (by kernel_rfl)) (fun _ _ _ h=>h) (Or.inl ⟨by rfl,?_⟩) ?_ ?_;rotate_left
          ·intro w';go_simp;with_reducible rfl
          rotate_left
          ·simp only [Act.put,qSa,qSb,qSc,i64_w,i32_w];rfl
          refine take_ (i:=10) (N:=some 39) (v:=?_) (a':=?_) #[true,true,true,true,true,true,true,true,true,true,true,false,false,false] rfl rfl (take_ofW HT_.1 HW_.1 (by kernel_rfl)) (fun _ _ _ h=>h) (Or.inl ⟨by rfl,?_⟩) hHeld ?_ ?_;rotate_left
          ·rintro w' ⟨s0,s1,s2,s3⟩;go_simp;with_reducible rfl
          rotate_left
          ·simp only [Act.put,qSa,qSb,qSc,i64_w,i32_w];rfl
          refine pure_ (i:=11) (N:=some 40) (v:=?_) (a':=?_) #[true,true,true,true,true,true,true,true,true,true,true,true,false,false] rfl rfl (any_of HT_.1 (by kernel_rfl)) (fun _ _ _ h=>h) (Or.inl ⟨by rfl,?_⟩) ?_ ?_;rotate_left
          ·intro w';go_simp;with_reducible rfl
          rotate_left
          ·simp only [Act.put,qSa,qSb,qSc,i64_w,i32_w];rfl
          refine pure_ (i:=12) (N:=some 41) (v:=?_) (a':=?_) #[true,true,true,true,true,true,true,true,true,true,true,true,true,false] rfl rfl (any_of HT_.1 (by kernel_rfl)) (fun _ _ _ h=>h) (Or.inl ⟨by rfl,?_⟩) ?_ ?_;rotate_left
          ·intro w';go_simp;with_reducible rfl
          rotate_left
          ·simp only [Act.put,qSa,qSb,qSc,i64_w,i32_w];rfl
          refine last_ (i:=13) (N:=none) #[true,true,true,true,true,true,true,true,true,true,true,true,true,true] rfl rfl (one_of HT_.1 (by kernel_rfl)) (by decide) (fun K hK=>?_);refine skip_ (w1:=?_) (by rfl) rfl ?_ ?_;rotate_left
          ·go_simp;rfl
          refine hK.out _ _ ?_;clear hK K;refine done_ (done_of HT_.1 (by kernel_rfl)) ?_;try go_wp2
          (first|go_roundg k1|((try simp only [add_plain] at *);go_roundg k1))
          case measure=>have:=HK1.1;omega
          case rel=>exact⟨(y251),(wrap64 (x7_1+1)),qB127,H',⟨by have:=HK1.1;omega⟩,⟨by (with_reducible repeat(first|apply Kd.R_alloc|apply Kd.R_drewN|apply Kd.R_drew));exact HQ22.1⟩,⟨by (with_reducible repeat(first|refine blk_drewN ?_ _|refine blk_drew ?_|refine blk_alloc ?_ _));refine blk_far ?_ (by have h_:=Kd.R_ne HO_6.1 BK244.1 (by decide);intro e_;exact h_ (by rw [e_];rfl)) _;(with_reducible repeat(first|refine blk_drewN ?_ _|refine blk_drew ?_|refine blk_alloc ?_ _));exact BK244.1⟩,⟨by (with_reducible repeat(first|refine blk_drewN ?_ _|refine blk_drew ?_|refine blk_alloc ?_ _));refine blk_far ?_ (by have h_:=Kd.R_ne HO_6.1 BK245.1 (by decide);intro e_;exact h_ (by rw [e_];rfl)) _;(with_reducible repeat(first|refine blk_drewN ?_ _|refine blk_drew ?_|refine blk_alloc ?_ _));exact BK245.1⟩,⟨by repeat(first|(with_reducible first|exact HB.1|apply below_alloc|apply pw_below_drewN|apply below_drew1|refine below_set ?_ GB17.1|refine below_set ?_ GE244.1|refine below_set ?_ GE245.1)|exact HB.1)⟩⟩
         ·rw [if_neg c16] at H;exact absurd H (by simp)
        ·rw [if_neg c15] at H;exact absurd H (by simp)
       ·rw [if_neg c14] at H;exact absurd H (by simp)
     ·rw [if_neg c11] at H;have c11b0:decide (x7_1<(l0_1.length:Int))=false:=decide_eq_false c11;clear c11;replace H:=qOb H;obtain⟨⟨t252,t253⟩,A230,H⟩:=H;replace H:(some (t252,t253))=some (r1,r2):=H;have A23:=qAm A230;clear A230;simp only [Option.some.injEq,Prod.mk.injEq] at H;obtain⟨rfl,rfl⟩:=H;have hnb24:=NB244_245.1;have hnc24:=NB245_244.1;have hcz25_0:wr.cell? ⟨gb244,0,none⟩=some (.int .i64 a0_0):=(blk_cell BK244.1 0).trans rfl;have hcz25_1:wr.cell? ⟨gb244,1,none⟩=some (.slice A0_1 l0_1.length c0_1):=(blk_cell BK244.1 1).trans rfl;have hfz25_0:=blk_frozen BK244.1 0;have hfz25_1:=blk_frozen BK244.1 1;obtain⟨Ao26,co26,eo26⟩:=Kd.R_slice HO_6.1;subst eo26;go_wp2_with (first|((with_reducible refine gate_callee (f:=83) rfl ?_);refine goesL_ (some 44) rfl rfl Try.func83 (by kernel_rfl) rfl #[.int .i64 a0_0,.slice Ao26 x6_1.length co26] rfl qB60 ?_;(with_reducible refine(spec_l01Reduce.calls k1 a0_0 _ _ x6_1 t252 t253 _ ?side1 ?side2 A23.1).mono ?_);(case side1=>repeat(first|exact(Kd.R_reads' HO_6.1).2.2|(with_reducible refine Kd.C_alloc ?_ _)|(with_reducible refine Kd.C_drewN ?_ _)|(with_reducible refine Kd.C_drew ?_)));(case side2=>exact(Kd.R_reads' HO_6.1).2.1);rintro e w27 ⟨v254,rfl,ho0,hb⟩;refine⟨_,rfl,?_⟩;have n0_:=qAm (Kd.R_elder' qB118 (Kd.R_base ho0) hb);have n1_:=qAm (Kd.R_lower (Kd.R_new' ho0 (Kd.R_lt qB118)) (below_size qB25));have n2_:=qAm (blk_below (g:=gb244) (o:=.cells #[.int .i64 a0_0,.slice A0_1 l0_1.length c0_1] 26 (0,0)) qB78 hb);have n3_:=qAm (blk_below (g:=gb245) (o:=.cells #[.int .i64 0,.slice none 0 0] 26 (0,0)) qB79 hb);have n4_:=qAm (below_step qB25 hb);clear HO_6;clear BK244;clear BK245;clear HB;have HO_6:=n0_;have HO255:=n1_;have BK244:=n2_;have BK245:=n3_;have HB:=n4_;clear n0_ n1_ n2_ n3_ n4_;(try clear hb);(try clear hb2);(try clear hk);(try clear hi);(try clear ho0);have hcz28_0:w27.cell? ⟨gb245,0,none⟩=some (.int .i64 0):=(blk_cell BK245.1 0).trans rfl;have hcz28_1:w27.cell? ⟨gb245,1,none⟩=some (.slice none 0 0):=(blk_cell BK245.1 1).trans rfl;have hfz28_0:=blk_frozen BK245.1 0;have hfz28_1:=blk_frozen BK245.1 1;obtain⟨Ao29,co29,eo29⟩:=Kd.R_slice HO255.1;subst eo29));refine bodyPost_ret (results_cell_row rfl _ _ gb245 26 #[.int .i64 t252,.slice Ao29 t253.length co29] (0,0) _ rfl (by (with_reducible repeat(first|refine blk_drewN ?_ _|refine blk_drew ?_|refine blk_alloc ?_ _));refine blk_put (cs:=#[.int .i64 t252,.slice none 0 0]) ?_ 1 _ rfl;(with_reducible repeat(first|refine blk_drewN ?_ _|refine blk_drew ?_|refine blk_alloc ?_ _));refine blk_put (cs:=#[.int .i64 0,.slice none 0 0]) ?_ 0 _ rfl;(with_reducible repeat(first|refine blk_drewN ?_ _|refine blk_drew ?_|refine blk_alloc ?_ _));exact BK245.1) Try.underlying26 rfl (by kernel_rfl)) rfl ?_;exact⟨_,by first|rfl|(simp [errW_none,errW_some] <;> rfl)|(simp [*,errW_none,errW_some] <;> rfl),by (with_reducible repeat(first|apply Kd.R_alloc|apply Kd.R_drewN|apply Kd.R_drew));exact Kd.R_mono (Kd.R_far (p:=⟨gb245,1,none⟩) (Kd.R_far (p:=⟨gb245,0,none⟩) (Kd.R_types HO255.1 BK245.1 (by decide)) (fun _ hk=>hk.2) (.int .i64 t252)) (fun _ hk=>hk.2) (.slice Ao29 t253.length co29)) (fun _ hk=>trivial),by repeat(first|(with_reducible first|exact HB.1|apply below_alloc|apply pw_below_drewN|apply below_drew1|refine below_set ?_ GE244.1|refine below_set ?_ GE245.1)|exact HB.1)⟩
  ·rw [if_neg c4] at H;exact absurd H (by simp)
 ·rw [if_neg c3] at H;exact absurd H (by simp)

/-! ### spec_l02Images: function 74 -/
def spec_l02Images.l0:Nat→List (S26)→List Int→Int→Int→List Int→Option ((List (S26))×List Int)
 |0,_,_,_,_,_=>none
 |k+1,x4,x5,x6,x257000,x257001=>if x6≤x257000 then ((spec_l01Gcd.f k x6 x257000).bind fun t263=>(if t263=1 then ((spec_l01Galois.f k x257000 x257001 x6).bind fun bt264=>(if x4.length<4398046511104 then (if x5.length<17592186044416 then (spec_l02Images.l0 k (x4 ++ [(⟨bt264.1,bt264.2⟩:S26)]) (x5 ++ [x6]) (wrap64 (x6+1)) x257000 x257001) else (none)) else (none))) else (spec_l02Images.l0 k x4 x5 (wrap64 (x6+1)) x257000 x257001))) else (some (x4,x5))
def spec_l02Images.f (k:Nat) (a0_0:Int) (l0_1:List Int):Option ((List (S26))×List Int):=spec_l02Images.l0 k (([]:List (S26))) (([]:List Int)) 1 a0_0 l0_1
theorem spec_l02Images.mono_l:∀k,(∀y0 y1 y2 y3 y4,LeO (spec_l02Images.l0 k y0 y1 y2 y3 y4) (spec_l02Images.l0 (k+1) y0 y1 y2 y3 y4))
 |0=>fun _ _ _ _ _ r h=>by simp [spec_l02Images.l0] at h
 |k+1=>by
  have ih0:=spec_l02Images.mono_l k
  ·intro y0 y1 y2 y3 y4;unfold spec_l02Images.l0;repeat' first
   |(with_reducible exact ih0 _ _ _ _ _)
   |(with_reducible exact spec_l01Galois.mono _ _ _ _)
   |(with_reducible exact spec_l01Gcd.mono _ _ _)
   |(with_reducible exact LeO.refl _)
   |(with_reducible exact LeO.none _)
   |(with_reducible refine LeO.ite ?_ ?_)
   |(with_reducible refine LeO.bind ?_ (fun _=>?_))
   |exact ih0 _ _ _ _ _
   |exact spec_l01Galois.mono _ _ _ _
   |exact spec_l01Gcd.mono _ _ _
   |exact LeO.none _
   |refine LeO.ite ?_ ?_
   |refine LeO.bind ?_ (fun _=>?_)
theorem spec_l02Images.mono:∀a0 a1 k,LeO (spec_l02Images.f k a0 a1) (spec_l02Images.f (k+1) a0 a1):=by
 intro a0 a1 k;have ih0:=spec_l02Images.mono_l k;unfold spec_l02Images.f;repeat' first
   |(with_reducible exact ih0 _ _ _ _ _)
   |(with_reducible exact spec_l01Galois.mono _ _ _ _)
   |(with_reducible exact spec_l01Gcd.mono _ _ _)
   |(with_reducible exact LeO.refl _)
   |(with_reducible exact LeO.none _)
   |(with_reducible refine LeO.ite ?_ ?_)
   |(with_reducible refine LeO.bind ?_ (fun _=>?_))
   |exact ih0 _ _ _ _ _
   |exact spec_l01Galois.mono _ _ _ _
   |exact spec_l01Gcd.mono _ _ _
   |exact LeO.none _
   |refine LeO.ite ?_ ?_
   |refine LeO.bind ?_ (fun _=>?_)
set_option maxHeartbeats 8000000 in
set_option maxRecDepth 100000 in
theorem spec_l02Images.calls (k:Nat) (a0_0:Int) (A0_1:Option Addr) (c0_1:Nat) (l0_1:List Int) (r1:List (S26)) (r2:List Int) (w:World) (hr0_1:Kd.C (Kd.int .i64) w A0_1 l0_1.length l0_1) (hc0_1:l0_1.length≤c0_1) (h:spec_l02Images.f k a0_0 l0_1=some (r1,r2)):
  Calls Try.prog 74 #[.agg #[.int .i64 a0_0,.slice A0_1 l0_1.length c0_1]] w fun e w'=>∃v0_ v1_:Value,e=.returned (.tuple #[v0_,v1_])∧Kd.S k26 26 w' w.heap.size (fun k_=>some k_≠(v1_:Value).ownBlock) v0_ r1∧Kd.R (Kd.int .i64) 2 w' w.heap.size (fun _=>True) v1_ r2∧Below w.heap.size w w':=by
 have hu26:=Try.underlying26;have HR0_1:=qAm hr0_1;have HC0_1:=qAm hc0_1;clear hr0_1 hc0_1;have HB:=qAm (Below.refl w.heap.size w);have H:(spec_l02Images.l0 k (([]:List (S26))) (([]:List Int)) 1 a0_0 l0_1)=some (r1,r2):=h;clear h;obtain⟨y257,hy257⟩:∃y_:List (S26),y_=(([]:List (S26))):=⟨_,rfl⟩
 replace H:(spec_l02Images.l0 k y257 (([]:List Int)) 1 a0_0 l0_1)=some (r1,r2):=by first|(rw [hy257];with_reducible exact H)|(have H2_:=(Option.bind_some _ _).symm.trans H;rw [hy257];with_reducible exact H2_)|(have H2_:=(Option.bind_some _ _).symm.trans H;with_reducible exact H2_)|with_reducible exact H|(rw [hy257];exact H)|exact H
 have Ny257:=qAm hy257;clear hy257;obtain⟨y260,hy260⟩:∃y_:List Int,y_=(([]:List Int)):=⟨_,rfl⟩
 replace H:(spec_l02Images.l0 k y257 y260 1 a0_0 l0_1)=some (r1,r2):=by first|(rw [hy260];with_reducible exact H)|(have H2_:=(Option.bind_some _ _).symm.trans H;rw [hy260];with_reducible exact H2_)|(have H2_:=(Option.bind_some _ _).symm.trans H;with_reducible exact H2_)|with_reducible exact H|(rw [hy260];exact H)|exact H
 have Ny260:=qAm hy260;clear hy260;have H':=qAm H;clear H;go_enter Try.func74,Try.ntmps74;go_wp2_with (first|((with_reducible refine gate_dst (N:=1) rfl ?_);refine box_event ?hg (N:=1) ?hd (cs:=#[.int .i64 a0_0,.slice A0_1 l0_1.length c0_1]) (t:=26) ?hr ?_;(case hd=>rfl);(case hg=>rfl);(case hr=>first|(go_simp;done)|(go_simp;rfl));intro gb256 hg w2 hbox hb;have n0_:=qAm (below_step qB62 hb);have n1_:=qAm (hbox);have n2_:=qAm ((by rw [hg];exact(below_size qB62):w.heap.size≤gb256));have n3_:=qAm ((by rw [hg];exact(below_size qB62):w.heap.size≤gb256));clear HB;have HB:=n0_;have BK256:=n1_;have GW256:=n2_;have GE256:=n3_;clear n0_ n1_ n2_ n3_;clear hb hbox hg)|((with_reducible refine gate_dst (N:=7) rfl ?_);refine Kd.S_lit k26 _ 26 ?hg (N:=7) ?hd (xs:=([]:List (S26))) (inner:=[]) (ok:=fun _=>True) (okp:=fun _=>True) ?hr ?hp (fun _ hk=>hk) trivial (Below.refl _ _) (Nat.le_refl _) (by simp) ?_;(case hd=>rfl);(case hg=>rfl);(case hr=>first|(go_simp;done)|(go_simp;rfl));(case hp=>exact(Reps.none _ _));intro v258 w3 ho4 hb hg_ hnew_;clear hg_ hnew_;(first|rw [← Ny257.1] at ho4|(simp only [Int.reduceToNat] at ho4;rw [← Ny257.1] at ho4));have n0_:=qAm (Kd.S_lower (Kd.S_newB ho4 (g:=gb256) (o:=.cells #[.int .i64 a0_0,.slice A0_1 l0_1.length c0_1] 26 (0,0)) qB80) (below_size qB41));have n1_:=qAm (blk_below (g:=gb256) (o:=.cells #[.int .i64 a0_0,.slice A0_1 l0_1.length c0_1] 26 (0,0)) qB80 hb);have n2_:=qAm (below_step qB41 hb);clear BK256;clear HB;have HO259:=n0_;have BK256:=n1_;have HB:=n2_;clear n0_ n1_ n2_;clear hb ho4)|((with_reducible refine gate_dst (N:=8) rfl ?_);refine Kd.R_lit (Kd.int .i64) _ 2 ?hg (N:=8) ?hd (xs:=([]:List Int)) (inner:=[]) (ok:=fun _=>True) (okp:=fun _=>True) ?hr ?hp (fun _ hk=>hk) trivial (Below.refl _ _) (Nat.le_refl _) (by simp) ?_;(case hd=>rfl);(case hg=>rfl);(case hr=>first|(go_simp;done)|(go_simp;rfl));(case hp=>exact(Reps.none _ _));intro v261 w5 ho6 hb hg_ hnew_;clear hg_ hnew_;(first|rw [← Ny260.1] at ho6|(simp only [Int.reduceToNat] at ho6;rw [← Ny260.1] at ho6));have n0_:=qAm (Kd.S_elder' (by (with_reducible repeat(first|apply Kd.S_alloc|apply Kd.S_drewN|apply Kd.S_drew));exact HO259.1) (Kd.R_base ho6) hb);have n1_:=qAm (Kd.R_lower ho6 (below_size qB41));have n2_:=qAm (blk_below (g:=gb256) (o:=.cells #[.int .i64 a0_0,.slice A0_1 l0_1.length c0_1] 26 (0,0)) qB80 hb);have n3_:=qAm (below_step qB41 hb);clear HO259;clear BK256;clear HB;have HO259:=n0_;have HO262:=n1_;have BK256:=n2_;have HB:=n3_;clear n0_ n1_ n2_ n3_;clear hb ho6));try simp only [Act.put,qSa,qSc,qSb]
 go_loopg [4,5,6] k (fun kq v4 v5 v6 w'=>∃(x4_1:List (S26)) (x5_1:List Int) (x6_1:Int),v6=.int .i64 x6_1∧Aside0 (spec_l02Images.l0 kq x4_1 x5_1 x6_1 a0_0 l0_1=some (r1,r2))∧Aside0 (kq≤k)∧Aside0 (Kd.S k26 26 w' w.heap.size (fun k_=>some k_≠(v5:Value).ownBlock∧k_≠gb256) v4 x4_1)∧Aside0 (Kd.R (Kd.int .i64) 2 w' w.heap.size (fun _=>True) v5 x5_1)∧Aside0 (w'.heap[gb256]? =some (.cells #[.int .i64 a0_0,(.slice A0_1 l0_1.length c0_1)] 26 (0,0)))∧Aside0 (Below w.heap.size w w'))
 case atStart=>exact⟨(y257),(y260),(1),qB127,H',⟨Nat.le_refl _⟩,⟨by (with_reducible repeat(first|apply Kd.S_alloc|apply Kd.S_drewN|apply Kd.S_drew));exact Kd.S_mono HO259.1 (fun _ hk=>⟨hk.2,hk.1.2⟩)⟩,⟨by (with_reducible repeat(first|apply Kd.R_alloc|apply Kd.R_drewN|apply Kd.R_drew));exact HO262.1⟩,⟨by (with_reducible repeat(first|refine blk_drewN ?_ _|refine blk_drew ?_|refine blk_alloc ?_ _));exact BK256.1⟩,⟨by repeat(first|(with_reducible first|exact HB.1|apply below_alloc|apply pw_below_drewN|apply below_drew1|refine below_set ?_ GE256.1)|exact HB.1)⟩⟩
 case round=>
  clear H';try clear p2
  obtain⟨x4_1,x5_1,x6_1,rfl,HA,HK1,HO_4,HO_5,BK256,HB⟩:=hrel;cases gk with
  |zero=>exact absurd HA.1 (by simp [spec_l02Images.l0])
  |succ k1=>
   have H:=HA.1;clear HA;simp only [spec_l02Images.l0] at H
   by_cases c7:x6_1≤a0_0
   ·rw [if_pos c7] at H;have c7b0:decide (x6_1≤a0_0)=true:=decide_eq_true c7;clear c7;replace H:=qOb H;obtain⟨t263,A80,H⟩:=H;replace H:(if t263=1 then ((spec_l01Galois.f k1 a0_0 l0_1 x6_1).bind fun bt264=>(if x4_1.length<4398046511104 then (if x5_1.length<17592186044416 then (spec_l02Images.l0 k1 (x4_1 ++ [(⟨bt264.1,bt264.2⟩:S26)]) (x5_1 ++ [x6_1]) (wrap64 (x6_1+1)) a0_0 l0_1) else (none)) else (none))) else (spec_l02Images.l0 k1 x4_1 x5_1 (wrap64 (x6_1+1)) a0_0 l0_1))=some (r1,r2):=H;have A8:=qAm A80;clear A80
    by_cases c9:t263=1
    ·rw [if_pos c9] at H;have c9b0:(t263==1)=true:=beq_iff_eq.mpr c9;have c9b1:(t263 !=1)=false:=bne_eq_false_iff_eq.mpr c9;clear c9;replace H:=qOb H;obtain⟨⟨t264,t265⟩,A100,H⟩:=H;replace H:(if x4_1.length<4398046511104 then (if x5_1.length<17592186044416 then (spec_l02Images.l0 k1 (x4_1 ++ [(⟨t264,t265⟩:S26)]) (x5_1 ++ [x6_1]) (wrap64 (x6_1+1)) a0_0 l0_1) else (none)) else (none))=some (r1,r2):=H;have A10:=qAm A100;clear A100
     by_cases c11:x4_1.length<4398046511104
     ·rw [if_pos c11] at H;have LMc11:=qAm c11;clear c11;obtain⟨y268,hy268⟩:∃y_:List (S26),y_=(x4_1 ++ [(⟨t264,t265⟩:S26)]):=⟨_,rfl⟩
      replace H:(if x5_1.length<17592186044416 then (spec_l02Images.l0 k1 y268 (x5_1 ++ [x6_1]) (wrap64 (x6_1+1)) a0_0 l0_1) else (none))=some (r1,r2):=by first|(rw [hy268];with_reducible exact H)|(have H2_:=(Option.bind_some _ _).symm.trans H;rw [hy268];with_reducible exact H2_)|(have H2_:=(Option.bind_some _ _).symm.trans H;with_reducible exact H2_)|with_reducible exact H|(rw [hy268];exact H)|exact H
      have Ny268:=qAm hy268;clear hy268
      by_cases c12:x5_1.length<17592186044416
      ·rw [if_pos c12] at H;have LMc12:=qAm c12;clear c12;obtain⟨y271,hy271⟩:∃y_:List Int,y_=(x5_1 ++ [x6_1]):=⟨_,rfl⟩
       replace H:(spec_l02Images.l0 k1 y268 y271 (wrap64 (x6_1+1)) a0_0 l0_1)=some (r1,r2):=by first|(rw [hy271];with_reducible exact H)|(have H2_:=(Option.bind_some _ _).symm.trans H;rw [hy271];with_reducible exact H2_)|(have H2_:=(Option.bind_some _ _).symm.trans H;with_reducible exact H2_)|with_reducible exact H|(rw [hy271];exact H)|exact H
       have Ny271:=qAm hy271;clear hy271;have H':=qAm H;clear H;have hcz13_0:wr.cell? ⟨gb256,0,none⟩=some (.int .i64 a0_0):=(blk_cell BK256.1 0).trans rfl;have hcz13_1:wr.cell? ⟨gb256,1,none⟩=some (.slice A0_1 l0_1.length c0_1):=(blk_cell BK256.1 1).trans rfl;have hfz13_0:=blk_frozen BK256.1 0;have hfz13_1:=blk_frozen BK256.1 1;go_wp2_with (first|((with_reducible refine gate_callee (f:=90) rfl ?_);refine goesL_ (some 18) rfl rfl Try.func90 (by kernel_rfl) rfl #[.int .i64 x6_1,.int .i64 a0_0] rfl qB60 ?_;(with_reducible refine(spec_l01Gcd.calls k1 x6_1 a0_0 t263 _ A8.1).mono ?_);rintro e w14 ⟨rfl,hb⟩;refine⟨_,rfl,?_⟩;have n0_:=qAm (Kd.S_below qB120 hb);have n1_:=qAm (Kd.R_below qB117 hb);have n2_:=qAm (blk_below (g:=gb256) (o:=.cells #[.int .i64 a0_0,.slice A0_1 l0_1.length c0_1] 26 (0,0)) qB80 hb);have n3_:=qAm (below_step qB41 hb);clear HO_4;clear HO_5;clear BK256;clear HB;have HO_4:=n0_;have HO_5:=n1_;have BK256:=n2_;have HB:=n3_;clear n0_ n1_ n2_ n3_;(try clear hb);(try clear hb2);(try clear hk);(try clear hi);have hcz15_0:w14.cell? ⟨gb256,0,none⟩=some (.int .i64 a0_0):=(blk_cell BK256.1 0).trans rfl;have hcz15_1:w14.cell? ⟨gb256,1,none⟩=some (.slice A0_1 l0_1.length c0_1):=(blk_cell BK256.1 1).trans rfl;have hfz15_0:=blk_frozen BK256.1 0;have hfz15_1:=blk_frozen BK256.1 1)|((with_reducible refine gate_callee (f:=73) rfl ?_);refine goesL_ (some 23) rfl rfl Try.func73 (by kernel_rfl) rfl #[.agg #[.int .i64 a0_0,.slice A0_1 l0_1.length c0_1],.int .i64 x6_1] rfl qB60 ?_;(with_reducible refine(spec_l01Galois.calls k1 a0_0 _ _ l0_1 x6_1 t264 t265 _ ?side1 ?side2 A10.1).mono ?_);(case side1=>repeat(first|exact(Kd.C_below HR0_1.1 HB.1)|(with_reducible refine Kd.C_alloc ?_ _)|(with_reducible refine Kd.C_drewN ?_ _)|(with_reducible refine Kd.C_drew ?_)));(case side2=>exact HC0_1.1);rintro e w16 ⟨v266,rfl,ho0,hb⟩;refine⟨_,rfl,?_⟩;have n0_:=qAm (Kd.S_elder' qB120 (Kd.R_base ho0) hb);have n1_:=qAm (Kd.R_elder' qB117 (Kd.R_base ho0) hb);have n2_:=qAm (Kd.R_lower (Kd.R_new' ho0 (Kd.R_lt qB117)) (below_size qB41));have n3_:=qAm (blk_below (g:=gb256) (o:=.cells #[.int .i64 a0_0,.slice A0_1 l0_1.length c0_1] 26 (0,0)) qB80 hb);have n4_:=qAm (below_step qB41 hb);clear HO_4;clear HO_5;clear BK256;clear HB;have HO_4:=n0_;have HO_5:=n1_;have HO267:=n2_;have BK256:=n3_;have HB:=n4_;clear n0_ n1_ n2_ n3_ n4_;(try clear hb);(try clear hb2);(try clear hk);(try clear hi);(try clear ho0);obtain⟨Ao18,co18,eo18⟩:=Kd.R_slice HO267.1;subst eo18)|((with_reducible refine gate_builtin (b:=.append) (xs:=#[.tmp 20,.tmp 24]) rfl ?_);at_builtin;refine Kd.S_append k26 (w0:=w) w.heap.size rfl (.tmp 20) (.tmp 24) 83 26 (.agg #[(.int .i64 0),(.slice none 0 0)]) 32 rfl Try.underlying83 info26 rfl (by decide) (by omega) u4 x4_1 (⟨t264,t265⟩:S26) [.int .i64 t264,.slice Ao18 t265.length co18] (fun k_=>some k_≠(u5:Value).ownBlock∧k_≠gb256) (fun k_=>some k_=(.slice Ao18 t265.length co18:Value).ownBlock) rfl rfl ?aP (fun k_ hk_=>((Kd.R_mono (ok':=fun k_=>((fun k_=>some k_≠(u5:Value).ownBlock∧k_≠gb256)) k_∧some k_≠(u4:Value).ownBlock) (Kd.R_types (Kd.R_apart' (HO267.1) (Kd.S_typed HO_4.1) (by decide)) BK256.1 (by decide)) (fun k_ hk=>⟨⟨hk.1.1.2,hk.2⟩,hk.1.2⟩))).1 k_ hk_.symm) ?aF ?aO ?aB ?aS ?aL ?_;(case aP=>exact k26_mkM _ _ _ (⟨t264,t265⟩:S26) (Kd.R_mono (Kd.R_tight rfl (Kd.R_mono (ok':=fun k_=>((fun k_=>some k_≠(u5:Value).ownBlock∧k_≠gb256)) k_∧some k_≠(u4:Value).ownBlock) (Kd.R_types (Kd.R_apart' (HO267.1) (Kd.S_typed HO_4.1) (by decide)) BK256.1 (by decide)) (fun k_ hk=>⟨⟨hk.1.1.2,hk.2⟩,hk.1.2⟩))) (fun _ h_=>h_)));(case aB=>exact qB41);(case aF=>exact(fun k_ hk=>⟨Kd.fresh' (Kd.R_lt qB117) k_ hk,Kd.freshB (g:=gb256) (o:=.cells #[.int .i64 a0_0,.slice A0_1 l0_1.length c0_1] 26 (0,0)) qB80 k_ hk⟩));(case aO=>exact(by (with_reducible repeat(first|apply Kd.S_alloc|apply Kd.S_drewN|apply Kd.S_drew));exact Kd.S_mono HO_4.1 (fun k_ hk=>⟨⟨hk.1.1,hk.1.2⟩,fun e_=>hk.2 e_⟩)));(case aS=>exact(below_size qB41));(case aL=>have:=LMc11.1;omega);intro v269 w17 ho hb hg hat;rw [← Ny268.1] at ho;have n0_:=qAm (Kd.R_over' qB117 (Kd.S_typed qB120) (by decide) hg);have n1_:=qAm (blk_grown (g:=gb256) (o:=.cells #[.int .i64 a0_0,.slice A0_1 l0_1.length c0_1] 26 (0,0)) qB80 hg (Kd.S_away HO_4.1 (fun _ hk=>hk.1.2)));have n2_:=qAm (hb);have n3_:=qAm (ho);clear HO_5;clear BK256;clear HB;clear HO_4;clear HO267;have HO_5:=n0_;have BK256:=n1_;have HB:=n2_;have HO270:=n3_;clear n0_ n1_ n2_ n3_;clear ho hb hg hat)|((with_reducible refine gate_builtin (b:=.append) (xs:=#[.tmp 26,.tmp 28]) rfl ?_);at_builtin;refine Kd.R_append (Kd.int .i64) (w0:=w) w.heap.size rfl (.tmp 26) (.tmp 28) 22 2 (.int .i64 0) 8 rfl Try.underlying22 info2 rfl (by decide) (by omega) u5 x5_1 x6_1 [.int .i64 x6_1] (fun _=>True) (fun _=>False) rfl rfl ?aP (fun _ hk=>hk.elim) ?aF ?aO ?aB ?aS ?aL ?_;(case aP=>exact rfl);(case aB=>exact qB41);(case aF=>exact(fun _ _=>trivial));(case aO=>exact(by (with_reducible repeat(first|apply Kd.R_alloc|apply Kd.R_drewN|apply Kd.R_drew));exact Kd.R_mono HO_5.1 (fun _ hk=>trivial)));(case aS=>exact(below_size qB41));(case aL=>have:=LMc12.1;omega);intro v272 w19 ho hb hg hat;rw [← Ny271.1] at ho;have n0_:=qAm (blk_grown (g:=gb256) (o:=.cells #[.int .i64 a0_0,.slice A0_1 l0_1.length c0_1] 26 (0,0)) qB80 hg (Kd.R_ne HO_5.1 BK256.1 (by decide)));have n1_:=qAm (Kd.S_after (ok:=(fun k_=>k_≠gb256)) (by (with_reducible repeat(first|apply Kd.S_alloc|apply Kd.S_drewN|apply Kd.S_drew));exact Kd.S_mono HO270.1 (fun _ hk=>⟨hk.2,hk.1⟩)) hg hat);have n2_:=qAm (hb);have n3_:=qAm (ho);clear BK256;clear HO270;clear HB;clear HO_5;have BK256:=n0_;have HO270:=n1_;have HB:=n2_;have HO273:=n3_;clear n0_ n1_ n2_ n3_;clear ho hb hg hat))
       (first|go_roundg k1|((try simp only [add_plain] at *);go_roundg k1))
       case measure=>have:=HK1.1;omega
       case rel=>exact⟨(y268),(y271),(wrap64 (x6_1+1)),qB127,H',⟨by have:=HK1.1;omega⟩,⟨by (with_reducible repeat(first|apply Kd.S_alloc|apply Kd.S_drewN|apply Kd.S_drew));exact Kd.S_mono HO270.1 (fun _ hk=>⟨hk.2,hk.1⟩)⟩,⟨by (with_reducible repeat(first|apply Kd.R_alloc|apply Kd.R_drewN|apply Kd.R_drew));exact HO273.1⟩,⟨by (with_reducible repeat(first|refine blk_drewN ?_ _|refine blk_drew ?_|refine blk_alloc ?_ _));exact BK256.1⟩,⟨by repeat(first|(with_reducible first|exact HB.1|apply below_alloc|apply pw_below_drewN|apply below_drew1|refine below_set ?_ GE256.1)|exact HB.1)⟩⟩
      ·rw [if_neg c12] at H;exact absurd H (by simp)
     ·rw [if_neg c11] at H;exact absurd H (by simp)
    ·rw [if_neg c9] at H;have c9b0:(t263==1)=false:=beq_eq_false_iff_ne.mpr c9;have c9b1:(t263 !=1)=true:=bne_iff_ne.mpr c9;have H':=qAm H;clear H;have hcz20_0:wr.cell? ⟨gb256,0,none⟩=some (.int .i64 a0_0):=(blk_cell BK256.1 0).trans rfl;have hcz20_1:wr.cell? ⟨gb256,1,none⟩=some (.slice A0_1 l0_1.length c0_1):=(blk_cell BK256.1 1).trans rfl;have hfz20_0:=blk_frozen BK256.1 0;have hfz20_1:=blk_frozen BK256.1 1;go_wp2_with (first|((with_reducible refine gate_callee (f:=90) rfl ?_);refine goesL_ (some 18) rfl rfl Try.func90 (by kernel_rfl) rfl #[.int .i64 x6_1,.int .i64 a0_0] rfl qB60 ?_;(with_reducible refine(spec_l01Gcd.calls k1 x6_1 a0_0 t263 _ A8.1).mono ?_);rintro e w21 ⟨rfl,hb⟩;refine⟨_,rfl,?_⟩;have n0_:=qAm (Kd.S_below qB120 hb);have n1_:=qAm (Kd.R_below qB117 hb);have n2_:=qAm (blk_below (g:=gb256) (o:=.cells #[.int .i64 a0_0,.slice A0_1 l0_1.length c0_1] 26 (0,0)) qB80 hb);have n3_:=qAm (below_step qB41 hb);clear HO_4;clear HO_5;clear BK256;clear HB;have HO_4:=n0_;have HO_5:=n1_;have BK256:=n2_;have HB:=n3_;clear n0_ n1_ n2_ n3_;(try clear hb);(try clear hb2);(try clear hk);(try clear hi)))
     (first|go_roundg k1|((try simp only [add_plain] at *);go_roundg k1))
     case measure=>have:=HK1.1;omega
     case rel=>exact⟨(x4_1),(x5_1),(wrap64 (x6_1+1)),qB127,H',⟨by have:=HK1.1;omega⟩,⟨by (with_reducible repeat(first|apply Kd.S_alloc|apply Kd.S_drewN|apply Kd.S_drew));exact HO_4.1⟩,⟨by (with_reducible repeat(first|apply Kd.R_alloc|apply Kd.R_drewN|apply Kd.R_drew));exact HO_5.1⟩,⟨by (with_reducible repeat(first|refine blk_drewN ?_ _|refine blk_drew ?_|refine blk_alloc ?_ _));exact BK256.1⟩,⟨by repeat(first|(with_reducible first|exact HB.1|apply below_alloc|apply pw_below_drewN|apply below_drew1|refine below_set ?_ GE256.1)|exact HB.1)⟩⟩
   ·rw [if_neg c7] at H;have c7b0:decide (x6_1≤a0_0)=false:=decide_eq_false c7;clear c7;simp only [Option.some.injEq,Prod.mk.injEq] at H;obtain⟨rfl,rfl⟩:=H;have hcz22_0:wr.cell? ⟨gb256,0,none⟩=some (.int .i64 a0_0):=(blk_cell BK256.1 0).trans rfl;have hcz22_1:wr.cell? ⟨gb256,1,none⟩=some (.slice A0_1 l0_1.length c0_1):=(blk_cell BK256.1 1).trans rfl;have hfz22_0:=blk_frozen BK256.1 0;have hfz22_1:=blk_frozen BK256.1 1;go_wp2;go_ret2;exact⟨_,_,by first|rfl|(simp [errW_none,errW_some] <;> rfl)|(simp [*,errW_none,errW_some] <;> rfl),by (with_reducible repeat(first|apply Kd.S_alloc|apply Kd.S_drewN|apply Kd.S_drew));exact Kd.S_mono HO_4.1 (fun _ hk=>hk.1),by (with_reducible repeat(first|apply Kd.R_alloc|apply Kd.R_drewN|apply Kd.R_drew));exact HO_5.1,by repeat(first|(with_reducible first|exact HB.1|apply below_alloc|apply pw_below_drewN|apply below_drew1|refine below_set ?_ GE256.1)|exact HB.1)⟩

end Go.Proofs.Ythljmbobccaalaa.PFnExactIsUnit
