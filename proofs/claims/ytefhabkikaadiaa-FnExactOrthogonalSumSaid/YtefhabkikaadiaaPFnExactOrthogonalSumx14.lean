/- The functions that the law reaches, as plain functions, each with the proof that the program comes to it; no condition. Written by a program of this session (wip/mp.py) over the printing of the kit; what is marked HAND is told by hand. -/
import Derived.Test.YtefhabkikaadiaaPFnExactOrthogonalSumx0
import Derived.Test.YtefhabkikaadiaaPFnExactOrthogonalSumx10
import Derived.Test.YtefhabkikaadiaaPFnExactOrthogonalSumx11
import Derived.Test.YtefhabkikaadiaaPFnExactOrthogonalSumx13
namespace Go.Proofs.Ytefhabkikaadiaa.PFnExactOrthogonalSum
open Go.RowKit Go.Proofs.YtefhabkikaadiaaW.PrintWords Go.Proofs.YtefhabkikaadiaaW.PrintLast Go.Proofs.YtefhabkikaadiaaW.PrintMore
attribute [local go_sem] max2_int min2_int max_two min_two max_three min_three max_four min_four   -- for this text's walks alone
set_option linter.unusedVariables false
set_option linter.unusedSimpArgs false

/-! ### impl_summed: function 76 -/
def impl_summed.l0:Nat→List Int→List Int→List Int→Int→Int→Int→Int→Int→Option (Int×List Int)
 |0,_,_,_,_,_,_,_,_=>none
 |k+1,x0,x5,x12,x13,x14,x419000,x419001,x419002=>if x14<x13 then (if 0≤x14 then (if x14<(x12.length:Int) then (if (rd x12 x14)≥0 then (if 0≤(rd x12 x14) then (if (rd x12 x14)<(x5.length:Int) then (if x14<(x0.length:Int) then (impl_summed.l0 k x0 (x5.set ((rd x12 x14):Int).toNat (wrap64 ((rd x5 (rd x12 x14))+(rd x0 x14)))) x12 x13 (wrap64 (x14+1)) x419000 x419001 x419002) else (none)) else (none)) else (none)) else (impl_summed.l0 k x0 x5 x12 x13 (wrap64 (x14+1)) x419000 x419001 x419002)) else (none)) else (none)) else ((impl_counted.f k x419001 x5).bind fun t430=>(some (x419001,t430)))
def impl_summed.f (k:Nat) (l0:List Int) (a1_0:Int) (a1_1:Int) (a1_2:Int):Option (Int×List Int):=if 0≤a1_1 then (if (a1_1:Int).toNat≤35184372088832 then ((impl_exponents.f k a1_0 a1_1 a1_2).bind fun t423=>(impl_summed.l0 k l0 (List.replicate (a1_1:Int).toNat 0) t423 (t423.length:Int) 0 a1_0 a1_1 a1_2)) else (none)) else (none)
theorem impl_summed.mono_l:∀k,(∀y0 y1 y2 y3 y4 y5 y6 y7,LeO (impl_summed.l0 k y0 y1 y2 y3 y4 y5 y6 y7) (impl_summed.l0 (k+1) y0 y1 y2 y3 y4 y5 y6 y7))
 |0=>fun _ _ _ _ _ _ _ _ r h=>by simp [impl_summed.l0] at h
 |k+1=>by
  have ih0:=impl_summed.mono_l k
  ·intro y0 y1 y2 y3 y4 y5 y6 y7;unfold impl_summed.l0;repeat' first
   |(with_reducible exact ih0 _ _ _ _ _ _ _ _)
   |(with_reducible exact impl_counted.mono _ _ _)
   |(with_reducible exact impl_exponents.mono _ _ _ _)
   |(with_reducible exact LeO.refl _)
   |(with_reducible exact LeO.none _)
   |(with_reducible refine LeO.ite ?_ ?_)
   |(with_reducible refine LeO.bind ?_ (fun _=>?_))
   |exact ih0 _ _ _ _ _ _ _ _
   |exact impl_counted.mono _ _ _
   |exact impl_exponents.mono _ _ _ _
   |exact LeO.none _
   |refine LeO.ite ?_ ?_
   |refine LeO.bind ?_ (fun _=>?_)
theorem impl_summed.mono:∀a0 a1 a2 a3 k,LeO (impl_summed.f k a0 a1 a2 a3) (impl_summed.f (k+1) a0 a1 a2 a3):=by
 intro a0 a1 a2 a3 k;have ih0:=impl_summed.mono_l k;unfold impl_summed.f;repeat' first
   |(with_reducible exact ih0 _ _ _ _ _ _ _ _)
   |(with_reducible exact impl_counted.mono _ _ _)
   |(with_reducible exact impl_exponents.mono _ _ _ _)
   |(with_reducible exact LeO.refl _)
   |(with_reducible exact LeO.none _)
   |(with_reducible refine LeO.ite ?_ ?_)
   |(with_reducible refine LeO.bind ?_ (fun _=>?_))
   |exact ih0 _ _ _ _ _ _ _ _
   |exact impl_counted.mono _ _ _
   |exact impl_exponents.mono _ _ _ _
   |exact LeO.none _
   |refine LeO.ite ?_ ?_
   |refine LeO.bind ?_ (fun _=>?_)
def impl_summed.T6:Bool×List (List Nat×List Nat):=(true,[([],[]),([],[]),([0,1],[0,1]),([2],[2]),([],[]),([],[]),([4,5],[4,5]),([6],[6]),([3,7],[3,7]),([0,1,0,1,2,3,4,5,6,7,8],[0,1]),([9,8,0,1,2,3,4,5,6,7,8],[8,9])])
def impl_summed.B6:List Nat:=[0,0,3,7,0,0,48,112,255,511,1023]
theorem impl_summed.tab6:rtab .any (opsOf Try.f76 6)=impl_summed.T6:=by kernel_rfl
theorem impl_summed.bits6:waitsOk impl_summed.T6.2 impl_summed.B6=true:=by kernel_rfl
def impl_summed.T8:Bool×List (List Nat×List Nat):=(true,[([],[]),([0],[0]),([],[]),([2],[2]),([],[]),([3,4],[3,4]),([1,5],[1,5]),([6,5,0,1,2,3,4,5,6],[6])])
def impl_summed.B8:List Nat:=[0,1,0,4,0,28,63,127]
theorem impl_summed.tab8:rtab .any (opsOf Try.f76 8)=impl_summed.T8:=by kernel_rfl
theorem impl_summed.bits8:waitsOk impl_summed.T8.2 impl_summed.B8=true:=by kernel_rfl
set_option maxHeartbeats 8000000 in
set_option maxRecDepth 100000 in
theorem impl_summed.calls (k:Nat) (A0:Option Addr) (c0:Nat) (l0:List Int) (a1_0:Int) (a1_1:Int) (a1_2:Int) (r1:Int) (r2:List Int) (w:World) (hr0:Kd.C (Kd.int .i64) w A0 l0.length l0) (hc0:l0.length≤c0) (h:impl_summed.f k l0 a1_0 a1_1 a1_2=some (r1,r2)):
  Calls Try.prog 76 #[.slice A0 l0.length c0,.agg #[.int .i64 a1_0,.int .i64 a1_1,.int .i64 a1_2]] w fun e w'=>∃v1_:Value,e=.returned (.agg #[.int .i64 r1,v1_])∧Kd.R (Kd.int .i64) 2 w' w.heap.size (fun _=>True) v1_ r2∧Below w.heap.size w w':=by
 have hu40:=Try.underlying40;have hu28:=Try.underlying28;have HR0:=qAm hr0;have HC0:=qAm hc0;clear hr0 hc0;have HB:=qAm (Below.refl w.heap.size w);have H:(if 0≤a1_1 then (if (a1_1:Int).toNat≤35184372088832 then ((impl_exponents.f k a1_0 a1_1 a1_2).bind fun t423=>(impl_summed.l0 k l0 (List.replicate (a1_1:Int).toNat 0) t423 (t423.length:Int) 0 a1_0 a1_1 a1_2)) else (none)) else (none))=some (r1,r2):=h;clear h
 by_cases c3:0≤a1_1
 ·rw [if_pos c3] at H;have c3b0:=eq_true c3;have c3b1:decide (0≤a1_1)=true:=decide_eq_true c3;clear c3
  by_cases c4:(a1_1:Int).toNat≤35184372088832
  ·rw [if_pos c4] at H;have c4b0:=eq_true c4;have c4b1:decide ((a1_1:Int).toNat≤35184372088832)=true:=decide_eq_true c4;clear c4;obtain⟨y420,hy420⟩:∃y_:List Int,y_=(List.replicate (a1_1:Int).toNat 0):=⟨_,rfl⟩
   replace H:((impl_exponents.f k a1_0 a1_1 a1_2).bind fun t423=>(impl_summed.l0 k l0 y420 t423 (t423.length:Int) 0 a1_0 a1_1 a1_2))=some (r1,r2):=by first|(rw [hy420];with_reducible exact H)|(have H2_:=(Option.bind_some _ _).symm.trans H;rw [hy420];with_reducible exact H2_)|(have H2_:=(Option.bind_some _ _).symm.trans H;with_reducible exact H2_)|with_reducible exact H|(rw [hy420];exact H)|exact H
   have Ny420:=qAm hy420;clear hy420;replace H:=qOb H;obtain⟨t423,A50,H⟩:=H;replace H:(impl_summed.l0 k l0 y420 t423 (t423.length:Int) 0 a1_0 a1_1 a1_2)=some (r1,r2):=H;have A5:=qAm A50;clear A50;have H':=qAm H;clear H;go_enter Try.func76,Try.ntmps76;go_wp2_with (first|((with_reducible refine gate_dst (N:=3) rfl ?_);refine box_event ?hg (N:=3) ?hd (cs:=#[.int .i64 a1_0,.int .i64 a1_1,.int .i64 a1_2]) (t:=40) ?hr ?_;(case hd=>rfl);(case hg=>rfl);(case hr=>first|(go_simp;done)|(go_simp;rfl));intro gb418 hg w6 hbox hb;have n0_:=qAm (below_step qB95 hb);have n1_:=qAm (hbox);have n2_:=qAm ((by rw [hg];exact(below_size qB95):w.heap.size≤gb418));have n3_:=qAm ((by rw [hg];exact(below_size qB95):w.heap.size≤gb418));clear HB;have HB:=n0_;have BK418:=n1_;have GW418:=n2_;have GE418:=n3_;clear n0_ n1_ n2_ n3_;clear hb hbox hg)|((with_reducible refine gate_dst (N:=4) rfl ?_);refine box_event ?hg (N:=4) ?hd (cs:=#[.int .i64 0,.slice none 0 0]) (t:=28) ?hr ?_;(case hd=>rfl);(case hg=>rfl);(case hr=>first|(go_simp;done)|(go_simp;rfl));intro gb419 hg w7 hbox hb;have n0_:=qAm (blk_below (g:=gb418) (o:=.cells #[.int .i64 a1_0,.int .i64 a1_1,.int .i64 a1_2] 40 (0,0)) qB131 hb);have n1_:=qAm (below_step qB68 hb);have n2_:=qAm (hbox);have n3_:=qAm ((by rw [hg];exact(below_size qB68):w.heap.size≤gb419));have n4_:=qAm ((by rw [hg];exact(below_size qB68):w.heap.size≤gb419));have n5_:=qAm ((by rw [hg];exact Nat.ne_of_lt (blk_lt (g:=gb418) (o:=.cells #[.int .i64 a1_0,.int .i64 a1_1,.int .i64 a1_2] 40 (0,0)) qB131):gb418≠gb419));have n6_:=qAm ((by rw [hg];exact Nat.ne_of_gt (blk_lt (g:=gb418) (o:=.cells #[.int .i64 a1_0,.int .i64 a1_1,.int .i64 a1_2] 40 (0,0)) qB131):gb419≠gb418));clear BK418;clear HB;have BK418:=n0_;have HB:=n1_;have BK419:=n2_;have GW419:=n3_;have GE419:=n4_;have NB418_419:=n5_;have NB419_418:=n6_;clear n0_ n1_ n2_ n3_ n4_ n5_ n6_;clear hb hbox hg;have hnb8:=NB418_419.1;have hnc8:=NB419_418.1;have hcz9_0:w7.cell? ⟨gb418,0,none⟩=some (.int .i64 a1_0):=(blk_cell BK418.1 0).trans rfl;have hcz9_1:w7.cell? ⟨gb418,1,none⟩=some (.int .i64 a1_1):=(blk_cell BK418.1 1).trans rfl;have hcz9_2:w7.cell? ⟨gb418,2,none⟩=some (.int .i64 a1_2):=(blk_cell BK418.1 2).trans rfl;have hfz9_0:=blk_frozen BK418.1 0;have hfz9_1:=blk_frozen BK418.1 1;have hfz9_2:=blk_frozen BK418.1 2)|((with_reducible refine gate_dst (N:=10) rfl ?_);refine Kd.R_make (Kd.int .i64) _ 2 rfl (N:=10) rfl 22 _ _ rfl a1_1 rfl rfl Try.underlying22 (.int .i64 0) 8 info2 rfl (by decide) (by omega) 0 (ok:=fun _=>True) (okp:=fun _=>True) rfl (fun _ hk=>hk) trivial (of_decide_eq_true qB177) (Nat.le_trans (Nat.mul_le_mul_right _ (of_decide_eq_true qB177:a1_1.toNat≤35184372088832)) (by omega)) (Below.refl _ _) (Nat.le_refl _) ?_;intro v421 w10 ho11 hb hg_ hnew_;clear hg_ hnew_;(first|rw [← Ny420.1] at ho11|(simp only [Int.reduceToNat] at ho11;rw [← Ny420.1] at ho11));have n0_:=qAm (Kd.R_lower ho11 (below_size qB42));have n1_:=qAm (blk_below (g:=gb418) (o:=.cells #[.int .i64 a1_0,.int .i64 a1_1,.int .i64 a1_2] 40 (0,0)) qB131 hb);have n2_:=qAm (blk_below (g:=gb419) (o:=.cells #[.int .i64 0,.slice none 0 0] 28 (0,0)) qB132 hb);have n3_:=qAm (below_step qB42 hb);clear BK418;clear BK419;clear HB;have HO422:=n0_;have BK418:=n1_;have BK419:=n2_;have HB:=n3_;clear n0_ n1_ n2_ n3_;clear hb ho11;have hcz12_0:w10.cell? ⟨gb418,0,none⟩=some (.int .i64 a1_0):=(blk_cell BK418.1 0).trans rfl;have hcz12_1:w10.cell? ⟨gb418,1,none⟩=some (.int .i64 a1_1):=(blk_cell BK418.1 1).trans rfl;have hcz12_2:w10.cell? ⟨gb418,2,none⟩=some (.int .i64 a1_2):=(blk_cell BK418.1 2).trans rfl;have hfz12_0:=blk_frozen BK418.1 0;have hfz12_1:=blk_frozen BK418.1 1;have hfz12_2:=blk_frozen BK418.1 2)|((with_reducible refine gate_callee (f:=113) rfl ?_);refine goesL_ (some 12) rfl rfl Try.func113 (by kernel_rfl) rfl #[.agg #[.int .i64 a1_0,.int .i64 a1_1,.int .i64 a1_2]] rfl qB90 ?_;(with_reducible refine(impl_exponents.calls k a1_0 a1_1 a1_2 t423 _ A5.1).mono ?_);rintro e w13 ⟨v424,rfl,ho0,hb⟩;refine⟨_,rfl,?_⟩;have n0_:=qAm (Kd.R_elder' qB165 (Kd.R_base ho0) hb);have n1_:=qAm (Kd.R_lower (Kd.R_new' ho0 (Kd.R_lt qB165)) (below_size qB42));have n2_:=qAm (blk_below (g:=gb418) (o:=.cells #[.int .i64 a1_0,.int .i64 a1_1,.int .i64 a1_2] 40 (0,0)) qB131 hb);have n3_:=qAm (blk_below (g:=gb419) (o:=.cells #[.int .i64 0,.slice none 0 0] 28 (0,0)) qB132 hb);have n4_:=qAm (below_step qB42 hb);clear HO422;clear BK418;clear BK419;clear HB;have HO422:=n0_;have HO425:=n1_;have BK418:=n2_;have BK419:=n3_;have HB:=n4_;clear n0_ n1_ n2_ n3_ n4_;(try clear hb);(try clear hb2);(try clear hk);(try clear hi);(try clear ho0);obtain⟨Ao14,co14,eo14⟩:=Kd.R_slice HO425.1;subst eo14));try simp only [Act.put,qSa,qSc,qSb]
   go_loopg [14] k (fun kq v14 w'=>∃(x5_1:List Int) (x14_1:Int),v14=.int .i64 x14_1∧Aside0 (impl_summed.l0 kq l0 x5_1 t423 (t423.length:Int) x14_1 a1_0 a1_1 a1_2=some (r1,r2))∧Aside0 (kq≤k)∧Aside0 (Kd.R (Kd.int .i64) 2 w' w.heap.size (fun k_=>some k_≠((.slice Ao14 t423.length co14):Value).ownBlock) v421 x5_1)∧Aside0 (Kd.R (Kd.int .i64) 2 w' w.heap.size (fun k_=>some k_≠(v421:Value).ownBlock) (.slice Ao14 t423.length co14) t423)∧Aside0 (w'.heap[gb418]? =some (.cells #[.int .i64 a1_0,.int .i64 a1_1,.int .i64 a1_2] 40 (0,0)))∧Aside0 (w'.heap[gb419]? =some (.cells #[.int .i64 0,(.slice none 0 0)] 28 (0,0)))∧Aside0 (Below w.heap.size w w'))
   case atStart=>exact⟨(y420),(0),qB178,H',⟨Nat.le_refl _⟩,⟨by (with_reducible repeat(first|apply Kd.R_alloc|apply Kd.R_drewN|apply Kd.R_drew));exact Kd.R_mono HO422.1 (fun _ hk=>hk.2)⟩,⟨by (with_reducible repeat(first|apply Kd.R_alloc|apply Kd.R_drewN|apply Kd.R_drew));exact Kd.R_mono HO425.1 (fun _ hk=>hk.2)⟩,⟨by (with_reducible repeat(first|refine blk_drewN ?_ _|refine blk_drew ?_|refine blk_alloc ?_ _));exact BK418.1⟩,⟨by (with_reducible repeat(first|refine blk_drewN ?_ _|refine blk_drew ?_|refine blk_alloc ?_ _));exact BK419.1⟩,⟨by repeat(first|(with_reducible first|exact HB.1|apply below_alloc|apply pw_below_drewN|apply below_drew1|refine below_set ?_ GE418.1|refine below_set ?_ GE419.1)|exact HB.1)⟩⟩
   case round=>
    clear H';try clear c1
    try clear p2
    try clear c3
    try clear c3b0
    try clear c3b1
    try clear c4
    try clear c4b0
    try clear c4b1
    try clear c7
    try clear c8
    try clear c11
    try clear hcz12_0
    try clear hcz12_1
    try clear hcz12_2
    try clear hcz9_0
    try clear hcz9_1
    try clear hcz9_2
    try clear hfz12_0
    try clear hfz12_1
    try clear hfz12_2
    try clear hfz9_0
    try clear hfz9_1
    try clear hfz9_2
    obtain⟨x5_1,x14_1,rfl,HA,HK1,HO_5,HO_12,BK418,BK419,HB⟩:=hrel;cases gk with
    |zero=>exact absurd HA.1 (by simp [impl_summed.l0])
    |succ k1=>
     have H:=HA.1;clear HA;simp only [impl_summed.l0] at H
     by_cases c15:x14_1<(t423.length:Int)
     ·rw [if_pos c15] at H;have c15b0:decide (x14_1<(t423.length:Int))=true:=decide_eq_true c15;clear c15
      by_cases c16:0≤x14_1
      ·rw [if_pos c16] at H;have c16b0:decide (0≤x14_1)=true:=decide_eq_true c16;clear c16
       by_cases c17:x14_1<(t423.length:Int)
       ·rw [if_pos c17] at H;have c17b0:decide (x14_1<(t423.length:Int))=true:=decide_eq_true c17;clear c17
        by_cases c18:(rd t423 x14_1)≥0
        ·rw [if_pos c18] at H;have c18b0:decide (0≤(rd t423 x14_1))=true:=decide_eq_true c18;clear c18
         by_cases c19:0≤(rd t423 x14_1)
         ·rw [if_pos c19] at H;have c19b0:decide (0≤(rd t423 x14_1))=true:=decide_eq_true c19;clear c19
          by_cases c20:(rd t423 x14_1)<(x5_1.length:Int)
          ·rw [if_pos c20] at H;have c20b0:decide ((rd t423 x14_1)<(x5_1.length:Int))=true:=decide_eq_true c20;clear c20
           by_cases c21:x14_1<(l0.length:Int)
           ·rw [if_pos c21] at H;have c21b0:decide (x14_1<(l0.length:Int))=true:=decide_eq_true c21;clear c21;obtain⟨y429,hy429⟩:∃y_:List Int,y_=(x5_1.set ((rd t423 x14_1):Int).toNat (wrap64 ((rd x5_1 (rd t423 x14_1))+(rd l0 x14_1)))):=⟨_,rfl⟩
            replace H:(impl_summed.l0 k1 l0 y429 t423 (t423.length:Int) (wrap64 (x14_1+1)) a1_0 a1_1 a1_2)=some (r1,r2):=by first|(rw [hy429];with_reducible exact H)|(have H2_:=(Option.bind_some _ _).symm.trans H;rw [hy429];with_reducible exact H2_)|(have H2_:=(Option.bind_some _ _).symm.trans H;with_reducible exact H2_)|with_reducible exact H|(rw [hy429];exact H)|exact H
            have Ny429:=qAm hy429;clear hy429;have H':=qAm H;clear H;have p426:0≤(x14_1:Int):=of_decide_eq_true qB177;have q426:x14_1<(t423.length:Int):=of_decide_eq_true qB177;obtain⟨ad426,e426,hx426_0⟩:=Kd.at_int (Kd.R_reads' HO_12.1).2.2 x14_1 p426 q426;cases e426
            replace p426:=eq_true p426;replace q426:=eq_true q426;try go_wp2
            have n0_:=qAm (Kd.R_drew HO_5.1);have n1_:=qAm (Kd.R_drew HO_12.1);have n2_:=qAm (blk_drew BK418.1);have n3_:=qAm (blk_drew BK419.1);have n4_:=qAm (below_drew1 HB.1);clear HO_5 HO_12 BK418 BK419 HB;have HO_5:=n0_;have HO_12:=n1_;have BK418:=n2_;have BK419:=n3_;have HB:=n4_;clear n0_ n1_ n2_ n3_ n4_;obtain⟨Ao24,co24,eo24⟩:=Kd.R_slice HO_5.1
            (first|subst eo24|(injection eo24 with f1_ f2_ f3_;have f4_:=f1_.symm;have f5_:=f3_.symm;clear f1_ f2_ f3_;subst f4_;subst f5_))
            have p427:0≤((rd t423 x14_1):Int):=of_decide_eq_true qB177;have q427:(rd t423 x14_1)<(x5_1.length:Int):=of_decide_eq_true qB177;obtain⟨ad427,e427,hx427_0⟩:=Kd.at_int (Kd.R_reads' HO_5.1).2.2 (rd t423 x14_1) p427 q427;cases e427
            replace p427:=eq_true p427;replace q427:=eq_true q427;have p428:0≤(x14_1:Int):=of_decide_eq_true qB177;have q428:x14_1<(l0.length:Int):=of_decide_eq_true qB177;obtain⟨ad428,e428,hx428_0⟩:=Kd.at_int HR0.1 x14_1 p428 q428;have hw428_0:=hx428_0;cases e428
            replace hx428_0:=(HB.1.cell (World.block_lt_of_cell? w _ hx428_0)).trans hx428_0;replace p428:=eq_true p428;replace q428:=eq_true q428;have p22:0≤((rd t423 x14_1):Int):=of_decide_eq_true qB177;have q22:((rd t423 x14_1):Int)<((x5_1.length:Int):Int):=of_decide_eq_true qB177;obtain⟨go22,co22,eo22,gb22,gl22,cl22,HG22⟩:=Kd.R_form HO_5.1 (by omega)
            (first|cases eo22|(injection eo22 with ea_ en_ ec_;(first|subst ea_|(injection ea_ with ea_;subst ea_));subst ec_;clear en_))
            have GB22:=qAm gb22;have GG22:=qAm HG22;clear gb22 gl22 HG22
            (first|simp only [add_plain] at hx427_0|skip)
            obtain⟨hx22_0,hf22_0⟩:=Kd.R_celln 0 HO_5.1 ((rd t423 x14_1):Int) p22 q22;replace p22:=eq_true p22;replace q22:=eq_true q22;have HP25:=Kd.R_putn HO_5.1 ((rd t423 x14_1):Int) (wrap64 ((rd x5_1 (rd t423 x14_1))+(rd l0 x14_1)));rw [← Ny429.1] at HP25;have HQ25:=qAm HP25;clear HP25;refine start_ (n:=11) (S:=fun w'=>w'.cell? ⟨go22,((rd t423 x14_1)).toNat,none⟩=some (.int .i64 (rd x5_1 (rd t423 x14_1)))∧w'.cell? (ad428.add (x14_1).toNat)=some (.int .i64 (rd l0 x14_1))) (ds:=[10]) #[false,false,false,false,false,false,false,false,false,false,false] (by kernel_rfl) rfl rfl ⟨hx427_0,((HB.1.cell (World.block_lt_of_cell? w _ hw428_0)).trans hw428_0)⟩ (fun hHeld=>?_);refine with_tabW impl_summed.tab6 impl_summed.bits6 (fun HT_ HW_=>?_);generalize wr.drew=w23 at HO_5 HO_12 BK418 BK419 HB GG22 HQ25 hf22_0 hx22_0 hx427_0 hx428_0 hHeld ⊢;refine pure_ (i:=0) (N:=some 21) (v:=?_) (a':=?_) #[true,false,false,false,false,false,false,false,false,false,false] rfl rfl (any_of HT_.1 (by kernel_rfl)) (fun _ _ _ h=>h) (Or.inl ⟨by rfl,?_⟩) ?_ ?_;rotate_left
            ·intro w';go_simp;with_reducible rfl
            rotate_left
            ·simp only [Act.put,qSa,qSb,qSc,i64_w,i32_w];rfl
            refine pure_ (i:=1) (N:=some 22) (v:=?_) (a':=?_) #[true,true,false,false,false,false,false,false,false,false,false] rfl rfl (any_of HT_.1 (by kernel_rfl)) (fun _ _ _ h=>h) (Or.inl ⟨by rfl,?_⟩) ?_ ?_;rotate_left
            ·intro w';go_simp;with_reducible rfl
            rotate_left
            ·simp only [Act.put,qSa,qSb,qSc,i64_w,i32_w];rfl
            refine pure_ (i:=2) (N:=some 23) (v:=?_) (a':=?_) #[true,true,true,false,false,false,false,false,false,false,false] rfl rfl (any_of HT_.1 (by kernel_rfl)) (fun _ _ _ h=>h) (Or.inl ⟨by rfl,?_⟩) ?_ ?_;rotate_left
            ·intro w';go_simp;with_reducible rfl
            rotate_left
            ·simp only [Act.put,qSa,qSb,qSc,i64_w,i32_w];rfl
            refine pure_ (i:=4) (N:=some 25) (v:=?_) (a':=?_) #[true,true,true,false,true,false,false,false,false,false,false] rfl rfl (any_of HT_.1 (by kernel_rfl)) (fun _ _ _ h=>h) (Or.inl ⟨by rfl,?_⟩) ?_ ?_;rotate_left
            ·intro w';go_simp;with_reducible rfl
            rotate_left
            ·simp only [Act.put,qSa,qSb,qSc,i64_w,i32_w];rfl
            refine pure_ (i:=5) (N:=some 26) (v:=?_) (a':=?_) #[true,true,true,false,true,true,false,false,false,false,false] rfl rfl (any_of HT_.1 (by kernel_rfl)) (fun _ _ _ h=>h) (Or.inl ⟨by rfl,?_⟩) ?_ ?_;rotate_left
            ·intro w';go_simp;with_reducible rfl
            rotate_left
            ·simp only [Act.put,qSa,qSb,qSc,i64_w,i32_w];rfl
            refine pure_ (i:=6) (N:=some 27) (v:=?_) (a':=?_) #[true,true,true,false,true,true,true,false,false,false,false] rfl rfl (any_of HT_.1 (by kernel_rfl)) (fun _ _ _ h=>h) (Or.inl ⟨by rfl,?_⟩) ?_ ?_;rotate_left
            ·intro w';go_simp;with_reducible rfl
            rotate_left
            ·simp only [Act.put,qSa,qSb,qSc,i64_w,i32_w];rfl
            refine take_ (i:=3) (N:=some 24) (v:=?_) (a':=?_) #[true,true,true,true,true,true,true,false,false,false,false] rfl rfl (take_ofW HT_.1 HW_.1 (by kernel_rfl)) (fun _ _ _ h=>h) (Or.inl ⟨by rfl,?_⟩) hHeld ?_ ?_;rotate_left
            ·rintro w' ⟨s0,s1⟩;go_simp;with_reducible rfl
            rotate_left
            ·simp only [Act.put,qSa,qSb,qSc,i64_w,i32_w];rfl
            refine take_ (i:=7) (N:=some 28) (v:=?_) (a':=?_) #[true,true,true,true,true,true,true,true,false,false,false] rfl rfl (take_ofW HT_.1 HW_.1 (by kernel_rfl)) (fun _ _ _ h=>h) (Or.inl ⟨by rfl,?_⟩) hHeld ?_ ?_;rotate_left
            ·rintro w' ⟨s0,s1⟩;go_simp;with_reducible rfl
            rotate_left
            ·simp only [Act.put,qSa,qSb,qSc,i64_w,i32_w];rfl
            refine pure_ (i:=8) (N:=some 29) (v:=?_) (a':=?_) #[true,true,true,true,true,true,true,true,true,false,false] rfl rfl (any_of HT_.1 (by kernel_rfl)) (fun _ _ _ h=>h) (Or.inl ⟨by rfl,?_⟩) ?_ ?_;rotate_left
            ·intro w';go_simp;with_reducible rfl
            rotate_left
            ·simp only [Act.put,qSa,qSb,qSc,i64_w,i32_w];rfl
            refine pure_ (i:=9) (N:=some 30) (v:=?_) (a':=?_) #[true,true,true,true,true,true,true,true,true,true,false] rfl rfl (any_of HT_.1 (by kernel_rfl)) (fun _ _ _ h=>h) (Or.inl ⟨by rfl,?_⟩) ?_ ?_;rotate_left
            ·intro w';go_simp;with_reducible rfl
            rotate_left
            ·simp only [Act.put,qSa,qSb,qSc,i64_w,i32_w];rfl
            refine last_ (i:=10) (N:=none) #[true,true,true,true,true,true,true,true,true,true,true] rfl rfl (one_of HT_.1 (by kernel_rfl)) (by decide) (fun K hK=>?_);refine skip_ (w1:=?_) (by rfl) rfl ?_ ?_;rotate_left
            ·go_simp;rfl
            refine hK.out _ _ ?_;clear hK K;refine done_ (done_of HT_.1 (by kernel_rfl)) ?_;try go_wp2
            (first|go_roundg k1|((try simp only [add_plain] at *);go_roundg k1))
            case measure=>have:=HK1.1;omega
            case rel=>exact⟨(y429),(wrap64 (x14_1+1)),qB178,H',⟨by have:=HK1.1;omega⟩,⟨by (with_reducible repeat(first|apply Kd.R_alloc|apply Kd.R_drewN|apply Kd.R_drew));exact HQ25.1⟩,⟨by (with_reducible repeat(first|apply Kd.R_alloc|apply Kd.R_drewN|apply Kd.R_drew));exact Kd.R_mono (Kd.R_far (p:=⟨go22,((rd t423 x14_1):Int).toNat,none⟩) (Kd.R_mono HO_12.1 (fun k_ hk=>(⟨hk,fun e_=>hk (by rw [e_];rfl)⟩:_∧k_≠go22))) (fun _ hk=>hk.2) (.int .i64 (wrap64 ((rd x5_1 (rd t423 x14_1))+(rd l0 x14_1))))) (fun _ hk=>hk.1)⟩,⟨by (with_reducible repeat(first|refine blk_drewN ?_ _|refine blk_drew ?_|refine blk_alloc ?_ _));refine blk_far ?_ (by have h_:=Kd.R_ne HO_5.1 BK418.1 (by decide);intro e_;exact h_ (by rw [e_];rfl)) _;(with_reducible repeat(first|refine blk_drewN ?_ _|refine blk_drew ?_|refine blk_alloc ?_ _));exact BK418.1⟩,⟨by (with_reducible repeat(first|refine blk_drewN ?_ _|refine blk_drew ?_|refine blk_alloc ?_ _));refine blk_far ?_ (by have h_:=Kd.R_ne HO_5.1 BK419.1 (by decide);intro e_;exact h_ (by rw [e_];rfl)) _;(with_reducible repeat(first|refine blk_drewN ?_ _|refine blk_drew ?_|refine blk_alloc ?_ _));exact BK419.1⟩,⟨by repeat(first|(with_reducible first|exact HB.1|apply below_alloc|apply pw_below_drewN|apply below_drew1|refine below_set ?_ GB22.1|refine below_set ?_ GE418.1|refine below_set ?_ GE419.1)|exact HB.1)⟩⟩
           ·rw [if_neg c21] at H;exact absurd H (by simp)
          ·rw [if_neg c20] at H;exact absurd H (by simp)
         ·rw [if_neg c19] at H;exact absurd H (by simp)
        ·rw [if_neg c18] at H;have c18b0:decide (0≤(rd t423 x14_1))=false:=decide_eq_false c18;clear c18;have H':=qAm H;clear H;have p426:0≤(x14_1:Int):=of_decide_eq_true qB177;have q426:x14_1<(t423.length:Int):=of_decide_eq_true qB177;obtain⟨ad426,e426,hx426_0⟩:=Kd.at_int (Kd.R_reads' HO_12.1).2.2 x14_1 p426 q426;cases e426
         replace p426:=eq_true p426;replace q426:=eq_true q426;go_wp2
         (first|go_roundg k1|((try simp only [add_plain] at *);go_roundg k1))
         case measure=>have:=HK1.1;omega
         case rel=>exact⟨(x5_1),(wrap64 (x14_1+1)),qB178,H',⟨by have:=HK1.1;omega⟩,⟨by (with_reducible repeat(first|apply Kd.R_alloc|apply Kd.R_drewN|apply Kd.R_drew));exact HO_5.1⟩,⟨by (with_reducible repeat(first|apply Kd.R_alloc|apply Kd.R_drewN|apply Kd.R_drew));exact HO_12.1⟩,⟨by (with_reducible repeat(first|refine blk_drewN ?_ _|refine blk_drew ?_|refine blk_alloc ?_ _));exact BK418.1⟩,⟨by (with_reducible repeat(first|refine blk_drewN ?_ _|refine blk_drew ?_|refine blk_alloc ?_ _));exact BK419.1⟩,⟨by repeat(first|(with_reducible first|exact HB.1|apply below_alloc|apply pw_below_drewN|apply below_drew1|refine below_set ?_ GE418.1|refine below_set ?_ GE419.1)|exact HB.1)⟩⟩
       ·rw [if_neg c17] at H;exact absurd H (by simp)
      ·rw [if_neg c16] at H;exact absurd H (by simp)
     ·rw [if_neg c15] at H;have c15b0:decide (x14_1<(t423.length:Int))=false:=decide_eq_false c15;clear c15;replace H:=qOb H;obtain⟨t430,A260,H⟩:=H;replace H:(some (a1_1,t430))=some (r1,r2):=H;have A26:=qAm A260;clear A260;simp only [Option.some.injEq,Prod.mk.injEq] at H;obtain⟨rfl,rfl⟩:=H;try go_wp2
      have n0_:=qAm (Kd.R_drew HO_5.1);have n1_:=qAm (Kd.R_drew HO_12.1);have n2_:=qAm (blk_drew BK418.1);have n3_:=qAm (blk_drew BK419.1);have n4_:=qAm (below_drew1 HB.1);clear HO_5 HO_12 BK418 BK419 HB;have HO_5:=n0_;have HO_12:=n1_;have BK418:=n2_;have BK419:=n3_;have HB:=n4_;clear n0_ n1_ n2_ n3_ n4_;obtain⟨Ao28,co28,eo28⟩:=Kd.R_slice HO_5.1
      (first|subst eo28|(injection eo28 with f1_ f2_ f3_;have f4_:=f1_.symm;have f5_:=f3_.symm;clear f1_ f2_ f3_;subst f4_;subst f5_))
      refine start_ (n:=8) (S:=fun w'=>w'.cell? ⟨gb418,0,none⟩=some (.int .i64 a1_0)∧w'.cell? ⟨gb418,1,none⟩=some (.int .i64 a1_1)∧w'.cell? ⟨gb418,2,none⟩=some (.int .i64 a1_2)) (ds:=[]) #[false,false,false,false,false,false,false,false] (by kernel_rfl) rfl rfl ⟨(blk_cell BK418.1 0).trans rfl,(blk_cell BK418.1 1).trans rfl,(blk_cell BK418.1 2).trans rfl⟩ (fun hHeld=>?_);refine with_tabW impl_summed.tab8 impl_summed.bits8 (fun HT_ HW_=>?_);generalize wr.drew=w27 at HO_5 HO_12 BK418 BK419 HB hHeld ⊢;refine pure_ (i:=0) (N:=some 32) (v:=?_) (a':=?_) #[true,false,false,false,false,false,false,false] rfl rfl (any_of HT_.1 (by kernel_rfl)) (fun _ _ _ h=>h) (Or.inl ⟨by rfl,?_⟩) ?_ ?_;rotate_left
      ·intro w';go_simp;with_reducible rfl
      rotate_left
      ·simp only [Act.put,qSa,qSb,qSc,i64_w,i32_w];rfl
      refine pure_ (i:=2) (N:=some 34) (v:=?_) (a':=?_) #[true,false,true,false,false,false,false,false] rfl rfl (any_of HT_.1 (by kernel_rfl)) (fun _ _ _ h=>h) (Or.inl ⟨by rfl,?_⟩) ?_ ?_;rotate_left
      ·intro w';go_simp;with_reducible rfl
      rotate_left
      ·simp only [Act.put,qSa,qSb,qSc,i64_w,i32_w];rfl
      refine pure_ (i:=4) (N:=some 36) (v:=?_) (a':=?_) #[true,false,true,false,true,false,false,false] rfl rfl (any_of HT_.1 (by kernel_rfl)) (fun _ _ _ h=>h) (Or.inl ⟨by rfl,?_⟩) ?_ ?_;rotate_left
      ·intro w';go_simp;with_reducible rfl
      rotate_left
      ·simp only [Act.put,qSa,qSb,qSc,i64_w,i32_w];rfl
      refine take_ (i:=1) (N:=some 33) (v:=?_) (a':=?_) #[true,true,true,false,true,false,false,false] rfl rfl (take_ofW HT_.1 HW_.1 (by kernel_rfl)) (fun _ _ _ h=>h) (Or.inl ⟨by rfl,?_⟩) hHeld ?_ ?_;rotate_left
      ·rintro w' ⟨s0,s1,s2⟩;go_simp;with_reducible rfl
      rotate_left
      ·simp only [Act.put,qSa,qSb,qSc,i64_w,i32_w];rfl
      refine take_ (i:=3) (N:=some 35) (v:=?_) (a':=?_) #[true,true,true,true,true,false,false,false] rfl rfl (take_ofW HT_.1 HW_.1 (by kernel_rfl)) (fun _ _ _ h=>h) (Or.inl ⟨by rfl,?_⟩) hHeld ?_ ?_;rotate_left
      ·rintro w' ⟨s0,s1,s2⟩;go_simp;with_reducible rfl
      rotate_left
      ·simp only [Act.put,qSa,qSb,qSc,i64_w,i32_w];rfl
      refine one_ (i:=5) (N:=some 37) #[true,true,true,true,true,true,false,false] rfl rfl (one_of HT_.1 (by kernel_rfl)) (by decide) (fun K hK=>?_);refine goes_ Try.func114 (by kernel_rfl) rfl #[.int .i64 a1_1,.slice Ao28 x5_1.length co28] (by rfl) rfl rfl qB90 ?_;with_reducible refine(impl_counted.calls k1 a1_1 _ _ x5_1 t430 _ ?side1 ?side2 A26.1).mono ?_
      (case side1=>repeat(first|exact(Kd.R_reads' HO_5.1).2.2|(with_reducible refine Kd.C_alloc ?_ _)|(with_reducible refine Kd.C_drewN ?_ _)|(with_reducible refine Kd.C_drew ?_)))
      (case side2=>exact(Kd.R_reads' HO_5.1).2.1)
      rintro e w29 ⟨v431,rfl,ho0,hb⟩;refine⟨_,rfl,?_⟩;have n0_:=qAm (Kd.R_elder' qB171 (Kd.R_base ho0) hb);have n1_:=qAm (Kd.R_elder' qB166 (Kd.R_base ho0) hb);have n2_:=qAm (Kd.R_lower (Kd.R_new' (Kd.R_new' ho0 (Kd.R_lt qB171)) (Kd.R_lt qB166)) (below_size qB42));have n3_:=qAm (blk_below (g:=gb418) (o:=.cells #[.int .i64 a1_0,.int .i64 a1_1,.int .i64 a1_2] 40 (0,0)) qB131 hb);have n4_:=qAm (blk_below (g:=gb419) (o:=.cells #[.int .i64 0,.slice none 0 0] 28 (0,0)) qB132 hb);have n5_:=qAm (below_step qB42 hb);clear HO_5 HO_12 BK418 BK419 HB;have HO_5:=n0_;have HO_12:=n1_;have HO432:=n2_;have BK418:=n3_;have BK419:=n4_;have HB:=n5_;clear n0_ n1_ n2_ n3_ n4_ n5_
      (try clear hb)
      (try clear hb2)
      (try clear hk)
      (try clear hi)
      (try clear ho0)
      obtain⟨Ao30,co30,eo30⟩:=Kd.R_slice HO432.1
      (first|subst eo30|(injection eo30 with f1_ f2_ f3_;have f4_:=f1_.symm;have f5_:=f3_.symm;clear f1_ f2_ f3_;subst f4_;subst f5_))
      refine hK.out _ _ ⟨(blk_cell BK418.1 0).trans rfl,(blk_cell BK418.1 1).trans rfl,(blk_cell BK418.1 2).trans rfl⟩ (fun hHeld=>?_);clear hK K;refine norm_ (a':=?_) ?_ ?_;rotate_left
      ·show Act.put _ (some 37) _=_
       simp only [Act.put,qSa,qSb,qSc,i64_w,i32_w];rfl
      refine pure_ (i:=6) (N:=some 38) (v:=?_) (a':=?_) #[true,true,true,true,true,true,true,false] rfl rfl (any_of HT_.1 (by kernel_rfl)) (fun _ _ _ h=>h) (Or.inl ⟨by rfl,?_⟩) ?_ ?_;rotate_left
      ·intro w';go_simp;with_reducible rfl
      rotate_left
      ·simp only [Act.put,qSa,qSb,qSc,i64_w,i32_w];rfl
      refine one_ (i:=7) (N:=none) #[true,true,true,true,true,true,true,true] rfl rfl (one_of HT_.1 (by kernel_rfl)) (by decide) (fun K hK=>?_);have hs31:w29.cell? ⟨gb419,0,none⟩=some (.int .i64 0):=(blk_cell BK419.1 0).trans rfl;have hfs31:=blk_frozen BK419.1 0;have hns31_0:=NB418_419.1;have hms31_0:=NB419_418.1;have hs32:w29.cell? ⟨gb419,1,none⟩=some (.slice none 0 0):=(blk_cell BK419.1 1).trans rfl;have hfs32:=blk_frozen BK419.1 1;have hns32_0:=NB418_419.1;have hms32_0:=NB419_418.1;refine skip_ (w1:=?_) (by rfl) rfl ?_ ?_;rotate_left
      ·go_simp;rfl
      refine hK.out _ _ ⟨((cell_far (p:=⟨gb419,_,none⟩) NB418_419.1 _).trans (((cell_far (p:=⟨gb419,_,none⟩) NB418_419.1 _).trans (hHeld.1)))),((cell_far (p:=⟨gb419,_,none⟩) NB418_419.1 _).trans (((cell_far (p:=⟨gb419,_,none⟩) NB418_419.1 _).trans (hHeld.2.1)))),((cell_far (p:=⟨gb419,_,none⟩) NB418_419.1 _).trans (((cell_far (p:=⟨gb419,_,none⟩) NB418_419.1 _).trans (hHeld.2.2))))⟩ (fun hHeld=>?_);clear hK K;refine done_ (done_of HT_.1 (by kernel_rfl)) ?_;try go_wp2
      refine bodyPost_ret (results_cell_row rfl _ _ gb419 28 #[.int .i64 a1_1,.slice Ao30 t430.length co30] (0,0) _ rfl (by (with_reducible repeat(first|refine blk_drewN ?_ _|refine blk_drew ?_|refine blk_alloc ?_ _));refine blk_put (cs:=#[.int .i64 a1_1,.slice none 0 0]) ?_ 1 _ rfl;(with_reducible repeat(first|refine blk_drewN ?_ _|refine blk_drew ?_|refine blk_alloc ?_ _));refine blk_put (cs:=#[.int .i64 0,.slice none 0 0]) ?_ 0 _ rfl;(with_reducible repeat(first|refine blk_drewN ?_ _|refine blk_drew ?_|refine blk_alloc ?_ _));exact BK419.1) Try.underlying28 rfl (by kernel_rfl)) rfl ?_;exact⟨_,by first|rfl|(simp [errW_none,errW_some] <;> rfl)|(simp [*,errW_none,errW_some] <;> rfl),by (with_reducible repeat(first|apply Kd.R_alloc|apply Kd.R_drewN|apply Kd.R_drew));exact Kd.R_mono (Kd.R_far (p:=⟨gb419,1,none⟩) (Kd.R_far (p:=⟨gb419,0,none⟩) (Kd.R_types HO432.1 BK419.1 (by decide)) (fun _ hk=>hk.2) (.int .i64 a1_1)) (fun _ hk=>hk.2) (.slice Ao30 t430.length co30)) (fun _ hk=>trivial),by repeat(first|(with_reducible first|exact HB.1|apply below_alloc|apply pw_below_drewN|apply below_drew1|refine below_set ?_ GE418.1|refine below_set ?_ GE419.1)|exact HB.1)⟩
  ·rw [if_neg c4] at H;exact absurd H (by simp)
 ·rw [if_neg c3] at H;exact absurd H (by simp)

/-! ### impl_ones: function 77 -/
def impl_ones.f (a0:Int):Option (List Int):=(slices_Repeat_int64_int64.f (([1]:List Int)) a0).bind fun t436=>(some t436)
set_option maxHeartbeats 8000000 in
set_option maxRecDepth 100000 in
theorem impl_ones.calls (a0:Int) (r:List Int) (w:World) (h:impl_ones.f a0=some r):
  Calls Try.prog 77 #[.int .i64 a0] w fun e w'=>∃v0_:Value,e=.returned (v0_)∧Kd.R (Kd.int .i64) 2 w' w.heap.size (fun _=>True) v0_ r∧Below w.heap.size w w':=by
 have HB:=qAm (Below.refl w.heap.size w);have H:((slices_Repeat_int64_int64.f (([1]:List Int)) a0).bind fun t436=>(some t436))=some r:=h;clear h;obtain⟨y433,hy433⟩:∃y_:List Int,y_=(([1]:List Int)):=⟨_,rfl⟩
 replace H:((slices_Repeat_int64_int64.f y433 a0).bind fun t436=>(some t436))=some r:=by first|(rw [hy433];with_reducible exact H)|(have H2_:=(Option.bind_some _ _).symm.trans H;rw [hy433];with_reducible exact H2_)|(have H2_:=(Option.bind_some _ _).symm.trans H;with_reducible exact H2_)|with_reducible exact H|(rw [hy433];exact H)|exact H
 have Ny433:=qAm hy433;clear hy433;replace H:=qOb H;obtain⟨t436,A20,H⟩:=H;replace H:(some t436)=some r:=H;have A2:=qAm A20;clear A20;obtain rfl:=Option.some.inj H;go_enter Try.func77,Try.ntmps77;go_wp2_with (first|((with_reducible refine gate_dst (N:=3) rfl ?_);refine Kd.R_lit (Kd.int .i64) _ 2 ?hg (N:=3) ?hd (xs:=([1]:List Int)) (inner:=[.int .i64 1]) (ok:=fun _=>True) (okp:=fun _=>True) ?hr ?hp (fun _ hk=>hk) trivial (Below.refl _ _) (Nat.le_refl _) (by simp) ?_;(case hd=>rfl);(case hg=>rfl);(case hr=>first|(go_simp;done)|(go_simp;rfl));(case hp=>exact(Reps.one (show Kd.M (Kd.int .i64) _ _ _ 1 [.int .i64 1] from rfl) (Reps.none _ _)));intro v434 w3 ho4 hb hg_ hnew_;clear hg_ hnew_;(first|rw [← Ny433.1] at ho4|(simp only [Int.reduceToNat] at ho4;rw [← Ny433.1] at ho4));have n0_:=qAm (Kd.R_lower ho4 (below_size qB95));have n1_:=qAm (below_step qB95 hb);clear HB;have HO435:=n0_;have HB:=n1_;clear n0_ n1_;clear hb ho4;obtain⟨Ao5,co5,eo5⟩:=Kd.R_slice HO435.1;subst eo5)|((with_reducible refine gate_callee (f:=120) rfl ?_);refine goesL_ (some 5) rfl rfl Try.func120 (by kernel_rfl) rfl #[.slice Ao5 y433.length co5,.int .i64 a0] rfl qB90 ?_;(with_reducible refine(slices_Repeat_int64_int64.calls _ _ y433 a0 t436 _ ?side1 ?side2 A2.1).mono ?_);(case side1=>repeat(first|exact(Kd.R_reads' HO435.1).2.2|(with_reducible refine Kd.C_alloc ?_ _)|(with_reducible refine Kd.C_drewN ?_ _)|(with_reducible refine Kd.C_drew ?_)));(case side2=>exact(Kd.R_reads' HO435.1).2.1);rintro e w6 ⟨v437,rfl,ho0,hb⟩;refine⟨_,rfl,?_⟩;have n0_:=qAm (Kd.R_elder' qB167 (Kd.R_base ho0) hb);have n1_:=qAm (Kd.R_lower (Kd.R_new' ho0 (Kd.R_lt qB167)) (below_size qB95));have n2_:=qAm (below_step qB95 hb);clear HO435;clear HB;have HO435:=n0_;have HO438:=n1_;have HB:=n2_;clear n0_ n1_ n2_;(try clear hb);(try clear hb2);(try clear hk);(try clear hi);(try clear ho0)));go_ret;exact⟨_,by first|rfl|(simp [errW_none,errW_some] <;> rfl)|(simp [*,errW_none,errW_some] <;> rfl),by (with_reducible repeat(first|apply Kd.R_alloc|apply Kd.R_drewN|apply Kd.R_drew));exact Kd.R_mono HO438.1 (fun _ hk=>trivial),by repeat(first|(with_reducible first|exact HB.1|apply below_alloc|apply pw_below_drewN|apply below_drew1)|exact HB.1)⟩

/-! ### impl_withPower: function 78 -/
def impl_withPower.f (a0_0:Int) (a0_1:Int) (a0_2:Int) (a1:Int):Option (Int×Int×Int):=(impl_around.f a1 a0_1).bind fun t441=>(some (a0_0,a0_1,t441))
set_option maxHeartbeats 8000000 in
set_option maxRecDepth 100000 in
theorem impl_withPower.calls (a0_0:Int) (a0_1:Int) (a0_2:Int) (a1:Int) (r1:Int) (r2:Int) (r3:Int) (w:World) (h:impl_withPower.f a0_0 a0_1 a0_2 a1=some (r1,r2,r3)):
  Calls Try.prog 78 #[.agg #[.int .i64 a0_0,.int .i64 a0_1,.int .i64 a0_2],.int .i64 a1] w fun e w'=>e=.returned (.agg #[.int .i64 r1,.int .i64 r2,.int .i64 r3])∧Below w.heap.size w w':=by
 have hu40:=Try.underlying40;have HB:=qAm (Below.refl w.heap.size w);have H:((impl_around.f a1 a0_1).bind fun t441=>(some (a0_0,a0_1,t441)))=some (r1,r2,r3):=h;clear h;replace H:=qOb H;obtain⟨t441,A30,H⟩:=H;replace H:(some (a0_0,a0_1,t441))=some (r1,r2,r3):=H;have A3:=qAm A30;clear A30;simp only [Option.some.injEq,Prod.mk.injEq] at H;obtain⟨rfl,rfl,rfl⟩:=H;go_enter Try.func78,Try.ntmps78;go_wp2_with (first|((with_reducible refine gate_dst (N:=2) rfl ?_);refine box_event ?hg (N:=2) ?hd (cs:=#[.int .i64 a0_0,.int .i64 a0_1,.int .i64 a0_2]) (t:=40) ?hr ?_;(case hd=>rfl);(case hg=>rfl);(case hr=>first|(go_simp;done)|(go_simp;rfl));intro gb439 hg w4 hbox hb;have n0_:=qAm (below_step qB95 hb);have n1_:=qAm (hbox);have n2_:=qAm ((by rw [hg];exact(below_size qB95):w.heap.size≤gb439));have n3_:=qAm ((by rw [hg];exact(below_size qB95):w.heap.size≤gb439));clear HB;have HB:=n0_;have BK439:=n1_;have GW439:=n2_;have GE439:=n3_;clear n0_ n1_ n2_ n3_;clear hb hbox hg)|((with_reducible refine gate_dst (N:=4) rfl ?_);refine box_event ?hg (N:=4) ?hd (cs:=#[.int .i64 0,.int .i64 0,.int .i64 0]) (t:=40) ?hr ?_;(case hd=>rfl);(case hg=>rfl);(case hr=>first|(go_simp;done)|(go_simp;rfl));intro gb440 hg w5 hbox hb;have n0_:=qAm (blk_below (g:=gb439) (o:=.cells #[.int .i64 a0_0,.int .i64 a0_1,.int .i64 a0_2] 40 (0,0)) qB133 hb);have n1_:=qAm (below_step qB69 hb);have n2_:=qAm (hbox);have n3_:=qAm ((by rw [hg];exact(below_size qB69):w.heap.size≤gb440));have n4_:=qAm ((by rw [hg];exact(below_size qB69):w.heap.size≤gb440));have n5_:=qAm ((by rw [hg];exact Nat.ne_of_lt (blk_lt (g:=gb439) (o:=.cells #[.int .i64 a0_0,.int .i64 a0_1,.int .i64 a0_2] 40 (0,0)) qB133):gb439≠gb440));have n6_:=qAm ((by rw [hg];exact Nat.ne_of_gt (blk_lt (g:=gb439) (o:=.cells #[.int .i64 a0_0,.int .i64 a0_1,.int .i64 a0_2] 40 (0,0)) qB133):gb440≠gb439));clear BK439;clear HB;have BK439:=n0_;have HB:=n1_;have BK440:=n2_;have GW440:=n3_;have GE440:=n4_;have NB439_440:=n5_;have NB440_439:=n6_;clear n0_ n1_ n2_ n3_ n4_ n5_ n6_;clear hb hbox hg;have hnb6:=NB439_440.1;have hnc6:=NB440_439.1;have hcz7_0:w5.cell? ⟨gb439,0,none⟩=some (.int .i64 a0_0):=(blk_cell BK439.1 0).trans rfl;have hcz7_1:w5.cell? ⟨gb439,1,none⟩=some (.int .i64 a0_1):=(blk_cell BK439.1 1).trans rfl;have hcz7_2:w5.cell? ⟨gb439,2,none⟩=some (.int .i64 a0_2):=(blk_cell BK439.1 2).trans rfl;have hfz7_0:=blk_frozen BK439.1 0;have hfz7_1:=blk_frozen BK439.1 1;have hfz7_2:=blk_frozen BK439.1 2)|((with_reducible refine gate_callee (f:=88) rfl ?_);refine goesL_ (some 8) rfl rfl Try.func88 (by kernel_rfl) rfl #[.int .i64 a1,.int .i64 a0_1] rfl qB90 ?_;(with_reducible refine(impl_around.calls a1 a0_1 t441 _ A3.1).mono ?_);rintro e w' ⟨rfl,⟨nd,rfl⟩⟩;refine⟨_,rfl,?_⟩;(try(rw [drewN_self w5];generalize hq_:World.drewN w5 _=w5;have n0_:Aside0 (w5.heap[gb439]? =some (.cells #[.int .i64 a0_0,.int .i64 a0_1,.int .i64 a0_2] 40 (0,0))):=⟨by rw [← hq_];exact qB133⟩;have n1_:Aside0 (w5.heap[gb440]? =some (.cells #[.int .i64 0,.int .i64 0,.int .i64 0] 40 (0,0))):=⟨by rw [← hq_];exact(by (with_reducible repeat(first|refine blk_drewN ?_ _|refine blk_drew ?_|refine blk_alloc ?_ _));exact BK440.1)⟩;have n2_:Aside0 (Below w.heap.size w w5):=⟨by rw [← hq_];exact(by repeat(first|(with_reducible first|exact HB.1|apply below_alloc|apply pw_below_drewN|apply below_drew1|refine below_set ?_ GE439.1|refine below_set ?_ GE440.1)|exact HB.1))⟩;clear BK439 BK440 HB hq_;have BK439:=n0_;have BK440:=n1_;have HB:=n2_;clear n0_ n1_ n2_));have hcz8_0:w5.cell? ⟨gb440,0,none⟩=some (.int .i64 0):=(blk_cell BK440.1 0).trans rfl;have hcz8_1:w5.cell? ⟨gb440,1,none⟩=some (.int .i64 0):=(blk_cell BK440.1 1).trans rfl;have hcz8_2:w5.cell? ⟨gb440,2,none⟩=some (.int .i64 0):=(blk_cell BK440.1 2).trans rfl;have hfz8_0:=blk_frozen BK440.1 0;have hfz8_1:=blk_frozen BK440.1 1;have hfz8_2:=blk_frozen BK440.1 2;(try have hcz97_0:w5.cell? ⟨gb439,0,none⟩=some (_):=(blk_cell BK439.1 0).trans rfl);(try have hcz97_1:w5.cell? ⟨gb439,1,none⟩=some (_):=(blk_cell BK439.1 1).trans rfl);(try have hcz97_2:w5.cell? ⟨gb439,2,none⟩=some (_):=(blk_cell BK439.1 2).trans rfl);(try have hfz97_0:=blk_frozen BK439.1 0);(try have hfz97_1:=blk_frozen BK439.1 1);(try have hfz97_2:=blk_frozen BK439.1 2)));refine bodyPost_ret (results_cell_row rfl _ _ gb440 40 #[.int .i64 a0_0,.int .i64 a0_1,.int .i64 t441] (0,0) _ rfl (by (with_reducible repeat(first|refine blk_drewN ?_ _|refine blk_drew ?_|refine blk_alloc ?_ _));refine blk_put (cs:=#[.int .i64 a0_0,.int .i64 a0_1,.int .i64 0]) ?_ 2 _ rfl;(with_reducible repeat(first|refine blk_drewN ?_ _|refine blk_drew ?_|refine blk_alloc ?_ _));refine blk_put (cs:=#[.int .i64 a0_0,.int .i64 0,.int .i64 0]) ?_ 1 _ rfl;(with_reducible repeat(first|refine blk_drewN ?_ _|refine blk_drew ?_|refine blk_alloc ?_ _));refine blk_put (cs:=#[.int .i64 0,.int .i64 0,.int .i64 0]) ?_ 0 _ rfl;(with_reducible repeat(first|refine blk_drewN ?_ _|refine blk_drew ?_|refine blk_alloc ?_ _));refine blk_far ?_ NB440_439.1 _;(with_reducible repeat(first|refine blk_drewN ?_ _|refine blk_drew ?_|refine blk_alloc ?_ _));exact BK440.1) Try.underlying40 rfl (by kernel_rfl)) rfl ?_;exact⟨by first|rfl|(simp [errW_none,errW_some] <;> rfl)|(simp [*,errW_none,errW_some] <;> rfl),by repeat(first|(with_reducible first|exact HB.1|apply below_alloc|apply pw_below_drewN|apply below_drew1|refine below_set ?_ GE439.1|refine below_set ?_ GE440.1)|exact HB.1)⟩

/-! ### impl_OrthogonalSum: function 25 -/
def impl_OrthogonalSum.f (k:Nat) (a0_0:Int) (a0_1:Int) (a0_2:Int) (a1_0:Int) (a1_1:Int) (a1_2:Int):Option (Int×List Int×Int):=(impl_pairCode.f k a0_0 a0_1 a0_2 a1_0 a1_1 a1_2).bind fun t445=>(if t445=0 then ((impl_ones.f a0_0).bind fun t446=>((impl_withPower.f a0_0 a0_1 a0_2 (wrap64 (a0_2 - a1_2))).bind fun bt449=>((impl_summed.f k t446 bt449.1 bt449.2.1 bt449.2.2).bind fun bt452=>(some (bt452.1,bt452.2,0))))) else (some (0,([]:List Int),t445)))
theorem impl_OrthogonalSum.mono:∀a0 a1 a2 a3 a4 a5 k,LeO (impl_OrthogonalSum.f k a0 a1 a2 a3 a4 a5) (impl_OrthogonalSum.f (k+1) a0 a1 a2 a3 a4 a5):=by
 intro a0 a1 a2 a3 a4 a5 k;unfold impl_OrthogonalSum.f;repeat' first
   |(with_reducible exact impl_pairCode.mono _ _ _ _ _ _ _)
   |(with_reducible exact impl_summed.mono _ _ _ _ _)
   |(with_reducible exact LeO.refl _)
   |(with_reducible exact LeO.none _)
   |(with_reducible refine LeO.ite ?_ ?_)
   |(with_reducible refine LeO.bind ?_ (fun _=>?_))
   |exact impl_pairCode.mono _ _ _ _ _ _ _
   |exact impl_summed.mono _ _ _ _ _
   |exact LeO.none _
   |refine LeO.ite ?_ ?_
   |refine LeO.bind ?_ (fun _=>?_)
def impl_OrthogonalSum.T4:Bool×List (List Nat×List Nat):=(true,[([],[]),([0],[0]),([1],[1]),([],[]),([],[]),([4],[4]),([],[]),([6],[6]),([5,7],[5,7]),([3,8,2],[3,8]),([2,9,9],[2,9]),([10,10,0,1,2,3,4,5,6,7,8,9,10],[10]),([11,0,1,2,3,4,5,6,7,8,9,10,11],[])])
def impl_OrthogonalSum.B4:List Nat:=[0,1,3,0,0,16,0,64,240,511,1023,2047,4095]
theorem impl_OrthogonalSum.tab4:rtab .any (opsOf Try.f25 4)=impl_OrthogonalSum.T4:=by kernel_rfl
theorem impl_OrthogonalSum.bits4:waitsOk impl_OrthogonalSum.T4.2 impl_OrthogonalSum.B4=true:=by kernel_rfl
set_option maxHeartbeats 8000000 in
set_option maxRecDepth 100000 in
theorem impl_OrthogonalSum.calls (k:Nat) (a0_0:Int) (a0_1:Int) (a0_2:Int) (a1_0:Int) (a1_1:Int) (a1_2:Int) (r1:Int) (r2:List Int) (r3:Int) (w:World) (h:impl_OrthogonalSum.f k a0_0 a0_1 a0_2 a1_0 a1_1 a1_2=some (r1,r2,r3)):
  Calls Try.prog 25 #[.agg #[.int .i64 a0_0,.int .i64 a0_1,.int .i64 a0_2],.agg #[.int .i64 a1_0,.int .i64 a1_1,.int .i64 a1_2]] w fun e w'=>∃v1_:Value,e=.returned (.tuple #[.agg #[.int .i64 r1,v1_],.int .i64 r3])∧Kd.R (Kd.int .i64) 2 w' w.heap.size (fun _=>True) v1_ r2∧Below w.heap.size w w':=by
 have hu40:=Try.underlying40;have hu28:=Try.underlying28;have HB:=qAm (Below.refl w.heap.size w);have H:((impl_pairCode.f k a0_0 a0_1 a0_2 a1_0 a1_1 a1_2).bind fun t445=>(if t445=0 then ((impl_ones.f a0_0).bind fun t446=>((impl_withPower.f a0_0 a0_1 a0_2 (wrap64 (a0_2 - a1_2))).bind fun bt449=>((impl_summed.f k t446 bt449.1 bt449.2.1 bt449.2.2).bind fun bt452=>(some (bt452.1,bt452.2,0))))) else (some (0,([]:List Int),t445))))=some (r1,r2,r3):=h;clear h;replace H:=qOb H;obtain⟨t445,A30,H⟩:=H;replace H:(if t445=0 then ((impl_ones.f a0_0).bind fun t446=>((impl_withPower.f a0_0 a0_1 a0_2 (wrap64 (a0_2 - a1_2))).bind fun bt449=>((impl_summed.f k t446 bt449.1 bt449.2.1 bt449.2.2).bind fun bt452=>(some (bt452.1,bt452.2,0))))) else (some (0,([]:List Int),t445)))=some (r1,r2,r3):=H;have A3:=qAm A30;clear A30
 by_cases c4:t445=0
 ·rw [if_pos c4] at H;have c4b0:(t445==0)=true:=beq_iff_eq.mpr c4;have c4b1:(t445 !=0)=false:=bne_eq_false_iff_eq.mpr c4;clear c4;replace H:=qOb H;obtain⟨t446,A50,H⟩:=H;replace H:((impl_withPower.f a0_0 a0_1 a0_2 (wrap64 (a0_2 - a1_2))).bind fun bt449=>((impl_summed.f k t446 bt449.1 bt449.2.1 bt449.2.2).bind fun bt452=>(some (bt452.1,bt452.2,0))))=some (r1,r2,r3):=H;have A5:=qAm A50;clear A50;replace H:=qOb H;obtain⟨⟨t449,t450,t451⟩,A60,H⟩:=H;replace H:((impl_summed.f k t446 t449 t450 t451).bind fun bt452=>(some (bt452.1,bt452.2,0)))=some (r1,r2,r3):=H;have A6:=qAm A60;clear A60;replace H:=qOb H;obtain⟨⟨t452,t453⟩,A70,H⟩:=H;replace H:(some (t452,t453,0))=some (r1,r2,r3):=H;have A7:=qAm A70;clear A70;simp only [Option.some.injEq,Prod.mk.injEq] at H;obtain⟨rfl,rfl,rfl⟩:=H;go_enter Try.func25,Try.ntmps25;try go_wp2_with (first|((with_reducible refine gate_dst (N:=2) rfl ?_);refine box_event ?hg (N:=2) ?hd (cs:=#[.int .i64 a0_0,.int .i64 a0_1,.int .i64 a0_2]) (t:=40) ?hr ?_;(case hd=>rfl);(case hg=>rfl);(case hr=>first|(go_simp;done)|(go_simp;rfl));intro gb442 hg w8 hbox hb;have n0_:=qAm (below_step qB95 hb);have n1_:=qAm (hbox);have n2_:=qAm ((by rw [hg];exact(below_size qB95):w.heap.size≤gb442));have n3_:=qAm ((by rw [hg];exact(below_size qB95):w.heap.size≤gb442));clear HB;have HB:=n0_;have BK442:=n1_;have GW442:=n2_;have GE442:=n3_;clear n0_ n1_ n2_ n3_;clear hb hbox hg)|((with_reducible refine gate_dst (N:=3) rfl ?_);refine box_event ?hg (N:=3) ?hd (cs:=#[.int .i64 a1_0,.int .i64 a1_1,.int .i64 a1_2]) (t:=40) ?hr ?_;(case hd=>rfl);(case hg=>rfl);(case hr=>first|(go_simp;done)|(go_simp;rfl));intro gb443 hg w9 hbox hb;have n0_:=qAm (blk_below (g:=gb442) (o:=.cells #[.int .i64 a0_0,.int .i64 a0_1,.int .i64 a0_2] 40 (0,0)) qB134 hb);have n1_:=qAm (below_step qB70 hb);have n2_:=qAm (hbox);have n3_:=qAm ((by rw [hg];exact(below_size qB70):w.heap.size≤gb443));have n4_:=qAm ((by rw [hg];exact(below_size qB70):w.heap.size≤gb443));have n5_:=qAm ((by rw [hg];exact Nat.ne_of_lt (blk_lt (g:=gb442) (o:=.cells #[.int .i64 a0_0,.int .i64 a0_1,.int .i64 a0_2] 40 (0,0)) qB134):gb442≠gb443));have n6_:=qAm ((by rw [hg];exact Nat.ne_of_gt (blk_lt (g:=gb442) (o:=.cells #[.int .i64 a0_0,.int .i64 a0_1,.int .i64 a0_2] 40 (0,0)) qB134):gb443≠gb442));clear BK442;clear HB;have BK442:=n0_;have HB:=n1_;have BK443:=n2_;have GW443:=n3_;have GE443:=n4_;have NB442_443:=n5_;have NB443_442:=n6_;clear n0_ n1_ n2_ n3_ n4_ n5_ n6_;clear hb hbox hg)|((with_reducible refine gate_dst (N:=4) rfl ?_);refine box_event ?hg (N:=4) ?hd (cs:=#[.int .i64 0,.slice none 0 0]) (t:=28) ?hr ?_;(case hd=>rfl);(case hg=>rfl);(case hr=>first|(go_simp;done)|(go_simp;rfl));intro gb444 hg w10 hbox hb;have n0_:=qAm (blk_below (g:=gb442) (o:=.cells #[.int .i64 a0_0,.int .i64 a0_1,.int .i64 a0_2] 40 (0,0)) qB134 hb);have n1_:=qAm (blk_below (g:=gb443) (o:=.cells #[.int .i64 a1_0,.int .i64 a1_1,.int .i64 a1_2] 40 (0,0)) qB135 hb);have n2_:=qAm (below_step qB43 hb);have n3_:=qAm (hbox);have n4_:=qAm ((by rw [hg];exact(below_size qB43):w.heap.size≤gb444));have n5_:=qAm ((by rw [hg];exact(below_size qB43):w.heap.size≤gb444));have n6_:=qAm ((by rw [hg];exact Nat.ne_of_lt (blk_lt (g:=gb442) (o:=.cells #[.int .i64 a0_0,.int .i64 a0_1,.int .i64 a0_2] 40 (0,0)) qB134):gb442≠gb444));have n7_:=qAm ((by rw [hg];exact Nat.ne_of_gt (blk_lt (g:=gb442) (o:=.cells #[.int .i64 a0_0,.int .i64 a0_1,.int .i64 a0_2] 40 (0,0)) qB134):gb444≠gb442));have n8_:=qAm ((by rw [hg];exact Nat.ne_of_lt (blk_lt (g:=gb443) (o:=.cells #[.int .i64 a1_0,.int .i64 a1_1,.int .i64 a1_2] 40 (0,0)) qB135):gb443≠gb444));have n9_:=qAm ((by rw [hg];exact Nat.ne_of_gt (blk_lt (g:=gb443) (o:=.cells #[.int .i64 a1_0,.int .i64 a1_1,.int .i64 a1_2] 40 (0,0)) qB135):gb444≠gb443));clear BK442;clear BK443;clear HB;have BK442:=n0_;have BK443:=n1_;have HB:=n2_;have BK444:=n3_;have GW444:=n4_;have GE444:=n5_;have NB442_444:=n6_;have NB444_442:=n7_;have NB443_444:=n8_;have NB444_443:=n9_;clear n0_ n1_ n2_ n3_ n4_ n5_ n6_ n7_ n8_ n9_;clear hb hbox hg;have hnb11:=NB442_443.1;have hnc11:=NB443_442.1;have hnb12:=NB442_444.1;have hnc12:=NB444_442.1;have hcz13_0:w10.cell? ⟨gb442,0,none⟩=some (.int .i64 a0_0):=(blk_cell BK442.1 0).trans rfl;have hcz13_1:w10.cell? ⟨gb442,1,none⟩=some (.int .i64 a0_1):=(blk_cell BK442.1 1).trans rfl;have hcz13_2:w10.cell? ⟨gb442,2,none⟩=some (.int .i64 a0_2):=(blk_cell BK442.1 2).trans rfl;have hfz13_0:=blk_frozen BK442.1 0;have hfz13_1:=blk_frozen BK442.1 1;have hfz13_2:=blk_frozen BK442.1 2;have hnb14:=NB443_444.1;have hnc14:=NB444_443.1;have hcz15_0:w10.cell? ⟨gb443,0,none⟩=some (.int .i64 a1_0):=(blk_cell BK443.1 0).trans rfl;have hcz15_1:w10.cell? ⟨gb443,1,none⟩=some (.int .i64 a1_1):=(blk_cell BK443.1 1).trans rfl;have hcz15_2:w10.cell? ⟨gb443,2,none⟩=some (.int .i64 a1_2):=(blk_cell BK443.1 2).trans rfl;have hfz15_0:=blk_frozen BK443.1 0;have hfz15_1:=blk_frozen BK443.1 1;have hfz15_2:=blk_frozen BK443.1 2)|((with_reducible refine gate_callee (f:=75) rfl ?_);refine goesL_ (some 9) rfl rfl Try.func75 (by kernel_rfl) rfl #[.agg #[.int .i64 a0_0,.int .i64 a0_1,.int .i64 a0_2],.agg #[.int .i64 a1_0,.int .i64 a1_1,.int .i64 a1_2]] rfl qB90 ?_;(with_reducible refine(impl_pairCode.calls k a0_0 a0_1 a0_2 a1_0 a1_1 a1_2 t445 _ A3.1).mono ?_);rintro e w16 ⟨rfl,hb⟩;refine⟨_,rfl,?_⟩;have n0_:=qAm (blk_below (g:=gb442) (o:=.cells #[.int .i64 a0_0,.int .i64 a0_1,.int .i64 a0_2] 40 (0,0)) qB134 hb);have n1_:=qAm (blk_below (g:=gb443) (o:=.cells #[.int .i64 a1_0,.int .i64 a1_1,.int .i64 a1_2] 40 (0,0)) qB135 hb);have n2_:=qAm (blk_below (g:=gb444) (o:=.cells #[.int .i64 0,.slice none 0 0] 28 (0,0)) qB136 hb);have n3_:=qAm (below_step qB29 hb);clear BK442;clear BK443;clear BK444;clear HB;have BK442:=n0_;have BK443:=n1_;have BK444:=n2_;have HB:=n3_;clear n0_ n1_ n2_ n3_;(try clear hb);(try clear hb2);(try clear hk);(try clear hi)))
  have n0_:=qAm (blk_drew BK442.1);have n1_:=qAm (blk_drew BK443.1);have n2_:=qAm (blk_drew BK444.1);have n3_:=qAm (below_drew1 HB.1);clear BK442 BK443 BK444 HB;have BK442:=n0_;have BK443:=n1_;have BK444:=n2_;have HB:=n3_;clear n0_ n1_ n2_ n3_;refine start_ (n:=13) (S:=fun w'=>w'.cell? ⟨gb442,0,none⟩=some (.int .i64 a0_0)∧w'.cell? ⟨gb442,1,none⟩=some (.int .i64 a0_1)∧w'.cell? ⟨gb442,2,none⟩=some (.int .i64 a0_2)∧w'.cell? ⟨gb443,0,none⟩=some (.int .i64 a1_0)∧w'.cell? ⟨gb443,1,none⟩=some (.int .i64 a1_1)∧w'.cell? ⟨gb443,2,none⟩=some (.int .i64 a1_2)) (ds:=[]) #[false,false,false,false,false,false,false,false,false,false,false,false,false] (by kernel_rfl) rfl rfl ⟨(blk_cell BK442.1 0).trans rfl,(blk_cell BK442.1 1).trans rfl,(blk_cell BK442.1 2).trans rfl,(blk_cell BK443.1 0).trans rfl,(blk_cell BK443.1 1).trans rfl,(blk_cell BK443.1 2).trans rfl⟩ (fun hHeld=>?_);refine with_tabW impl_OrthogonalSum.tab4 impl_OrthogonalSum.bits4 (fun HT_ HW_=>?_);generalize w16.drew=w17 at BK442 BK443 BK444 HB hHeld ⊢;refine pure_ (i:=0) (N:=some 14) (v:=?_) (a':=?_) #[true,false,false,false,false,false,false,false,false,false,false,false,false] rfl rfl (any_of HT_.1 (by kernel_rfl)) (fun _ _ _ h=>h) (Or.inl ⟨by rfl,?_⟩) ?_ ?_;rotate_left
  ·intro w';go_simp;with_reducible rfl
  rotate_left
  ·simp only [Act.put,qSa,qSb,qSc,i64_w,i32_w];rfl
  refine pure_ (i:=4) (N:=some 18) (v:=?_) (a':=?_) #[true,false,false,false,true,false,false,false,false,false,false,false,false] rfl rfl (any_of HT_.1 (by kernel_rfl)) (fun _ _ _ h=>h) (Or.inl ⟨by rfl,?_⟩) ?_ ?_;rotate_left
  ·intro w';go_simp;with_reducible rfl
  rotate_left
  ·simp only [Act.put,qSa,qSb,qSc,i64_w,i32_w];rfl
  refine pure_ (i:=6) (N:=some 20) (v:=?_) (a':=?_) #[true,false,false,false,true,false,true,false,false,false,false,false,false] rfl rfl (any_of HT_.1 (by kernel_rfl)) (fun _ _ _ h=>h) (Or.inl ⟨by rfl,?_⟩) ?_ ?_;rotate_left
  ·intro w';go_simp;with_reducible rfl
  rotate_left
  ·simp only [Act.put,qSa,qSb,qSc,i64_w,i32_w];rfl
  refine take_ (i:=1) (N:=some 15) (v:=?_) (a':=?_) #[true,true,false,false,true,false,true,false,false,false,false,false,false] rfl rfl (take_ofW HT_.1 HW_.1 (by kernel_rfl)) (fun _ _ _ h=>h) (Or.inl ⟨by rfl,?_⟩) hHeld ?_ ?_;rotate_left
  ·rintro w' ⟨s0,s1,s2,s3,s4,s5⟩;go_simp;with_reducible rfl
  rotate_left
  ·simp only [Act.put,qSa,qSb,qSc,i64_w,i32_w];rfl
  refine take_ (i:=3) (N:=some 17) (v:=?_) (a':=?_) #[true,true,false,true,true,false,true,false,false,false,false,false,false] rfl rfl (take_ofW HT_.1 HW_.1 (by kernel_rfl)) (fun _ _ _ h=>h) (Or.inl ⟨by rfl,?_⟩) hHeld ?_ ?_;rotate_left
  ·rintro w' ⟨s0,s1,s2,s3,s4,s5⟩;go_simp;with_reducible rfl
  rotate_left
  ·simp only [Act.put,qSa,qSb,qSc,i64_w,i32_w];rfl
  refine take_ (i:=5) (N:=some 19) (v:=?_) (a':=?_) #[true,true,false,true,true,true,true,false,false,false,false,false,false] rfl rfl (take_ofW HT_.1 HW_.1 (by kernel_rfl)) (fun _ _ _ h=>h) (Or.inl ⟨by rfl,?_⟩) hHeld ?_ ?_;rotate_left
  ·rintro w' ⟨s0,s1,s2,s3,s4,s5⟩;go_simp;with_reducible rfl
  rotate_left
  ·simp only [Act.put,qSa,qSb,qSc,i64_w,i32_w];rfl
  refine take_ (i:=7) (N:=some 21) (v:=?_) (a':=?_) #[true,true,false,true,true,true,true,true,false,false,false,false,false] rfl rfl (take_ofW HT_.1 HW_.1 (by kernel_rfl)) (fun _ _ _ h=>h) (Or.inl ⟨by rfl,?_⟩) hHeld ?_ ?_;rotate_left
  ·rintro w' ⟨s0,s1,s2,s3,s4,s5⟩;go_simp;with_reducible rfl
  rotate_left
  ·simp only [Act.put,qSa,qSb,qSc,i64_w,i32_w];rfl
  refine pure_ (i:=8) (N:=some 22) (v:=?_) (a':=?_) #[true,true,false,true,true,true,true,true,true,false,false,false,false] rfl rfl (any_of HT_.1 (by kernel_rfl)) (fun _ _ _ h=>h) (Or.inl ⟨by rfl,?_⟩) ?_ ?_;rotate_left
  ·intro w';go_simp;with_reducible rfl
  rotate_left
  ·simp only [Act.put,qSa,qSb,qSc,i64_w,i32_w];rfl
  refine one_ (i:=2) (N:=some 16) #[true,true,true,true,true,true,true,true,true,false,false,false,false] rfl rfl (one_of HT_.1 (by kernel_rfl)) (by decide) (fun K hK=>?_);refine goes_ Try.func77 (by kernel_rfl) rfl #[.int .i64 a0_0] (by rfl) rfl rfl qB90 ?_;with_reducible refine(impl_ones.calls a0_0 t446 _ A5.1).mono ?_
  rintro e w18 ⟨v447,rfl,ho0,hb⟩;refine⟨_,rfl,?_⟩;have n0_:=qAm (Kd.R_lower ho0 (below_size qB29));have n1_:=qAm (blk_below (g:=gb442) (o:=.cells #[.int .i64 a0_0,.int .i64 a0_1,.int .i64 a0_2] 40 (0,0)) qB134 hb);have n2_:=qAm (blk_below (g:=gb443) (o:=.cells #[.int .i64 a1_0,.int .i64 a1_1,.int .i64 a1_2] 40 (0,0)) qB135 hb);have n3_:=qAm (blk_below (g:=gb444) (o:=.cells #[.int .i64 0,.slice none 0 0] 28 (0,0)) qB136 hb);have n4_:=qAm (below_step qB29 hb);clear BK442 BK443 BK444 HB;have HO448:=n0_;have BK442:=n1_;have BK443:=n2_;have BK444:=n3_;have HB:=n4_;clear n0_ n1_ n2_ n3_ n4_
  (try clear hb)
  (try clear hb2)
  (try clear hk)
  (try clear hi)
  (try clear ho0)
  refine hK.out _ _ ⟨(blk_cell BK442.1 0).trans rfl,(blk_cell BK442.1 1).trans rfl,(blk_cell BK442.1 2).trans rfl,(blk_cell BK443.1 0).trans rfl,(blk_cell BK443.1 1).trans rfl,(blk_cell BK443.1 2).trans rfl⟩ (fun hHeld=>?_);clear hK K;refine norm_ (a':=?_) ?_ ?_;rotate_left
  ·show Act.put _ (some 16) _=_
   simp only [Act.put,qSa,qSb,qSc,i64_w,i32_w];rfl
  refine one_ (i:=9) (N:=some 23) #[true,true,true,true,true,true,true,true,true,true,false,false,false] rfl rfl (one_of HT_.1 (by kernel_rfl)) (by decide) (fun K hK=>?_);refine goes_ Try.func78 (by kernel_rfl) rfl #[.agg #[.int .i64 a0_0,.int .i64 a0_1,.int .i64 a0_2],.int .i64 (wrap64 (a0_2 - a1_2))] (by rfl) rfl rfl qB90 ?_;with_reducible refine(impl_withPower.calls a0_0 a0_1 a0_2 (wrap64 (a0_2 - a1_2)) t449 t450 t451 _ A6.1).mono ?_
  rintro e w19 ⟨rfl,hb⟩;refine⟨_,rfl,?_⟩;have n0_:=qAm (Kd.R_below qB168 hb);have n1_:=qAm (blk_below (g:=gb442) (o:=.cells #[.int .i64 a0_0,.int .i64 a0_1,.int .i64 a0_2] 40 (0,0)) qB134 hb);have n2_:=qAm (blk_below (g:=gb443) (o:=.cells #[.int .i64 a1_0,.int .i64 a1_1,.int .i64 a1_2] 40 (0,0)) qB135 hb);have n3_:=qAm (blk_below (g:=gb444) (o:=.cells #[.int .i64 0,.slice none 0 0] 28 (0,0)) qB136 hb);have n4_:=qAm (below_step qB29 hb);clear HO448 BK442 BK443 BK444 HB;have HO448:=n0_;have BK442:=n1_;have BK443:=n2_;have BK444:=n3_;have HB:=n4_;clear n0_ n1_ n2_ n3_ n4_
  (try clear hb)
  (try clear hb2)
  (try clear hk)
  (try clear hi)
  obtain⟨Ao20,co20,eo20⟩:=Kd.R_slice HO448.1
  (first|subst eo20|(injection eo20 with f1_ f2_ f3_;have f4_:=f1_.symm;have f5_:=f3_.symm;clear f1_ f2_ f3_;subst f4_;subst f5_))
  refine hK.out _ _ ⟨(blk_cell BK442.1 0).trans rfl,(blk_cell BK442.1 1).trans rfl,(blk_cell BK442.1 2).trans rfl,(blk_cell BK443.1 0).trans rfl,(blk_cell BK443.1 1).trans rfl,(blk_cell BK443.1 2).trans rfl⟩ (fun hHeld=>?_);clear hK K;refine norm_ (a':=?_) ?_ ?_;rotate_left
  ·show Act.put _ (some 23) _=_
   simp only [Act.put,qSa,qSb,qSc,i64_w,i32_w];rfl
  refine one_ (i:=10) (N:=some 24) #[true,true,true,true,true,true,true,true,true,true,true,false,false] rfl rfl (one_of HT_.1 (by kernel_rfl)) (by decide) (fun K hK=>?_);refine goes_ Try.func76 (by kernel_rfl) rfl #[.slice Ao20 t446.length co20,.agg #[.int .i64 t449,.int .i64 t450,.int .i64 t451]] (by rfl) rfl rfl qB90 ?_;with_reducible refine(impl_summed.calls k _ _ t446 t449 t450 t451 t452 t453 _ ?side1 ?side2 A7.1).mono ?_
  (case side1=>repeat(first|exact(Kd.R_reads' HO448.1).2.2|(with_reducible refine Kd.C_alloc ?_ _)|(with_reducible refine Kd.C_drewN ?_ _)|(with_reducible refine Kd.C_drew ?_)))
  (case side2=>exact(Kd.R_reads' HO448.1).2.1)
  rintro e w21 ⟨v454,rfl,ho0,hb⟩;refine⟨_,rfl,?_⟩;have n0_:=qAm (Kd.R_elder' qB168 (Kd.R_base ho0) hb);have n1_:=qAm (Kd.R_lower (Kd.R_new' ho0 (Kd.R_lt qB168)) (below_size qB29));have n2_:=qAm (blk_below (g:=gb442) (o:=.cells #[.int .i64 a0_0,.int .i64 a0_1,.int .i64 a0_2] 40 (0,0)) qB134 hb);have n3_:=qAm (blk_below (g:=gb443) (o:=.cells #[.int .i64 a1_0,.int .i64 a1_1,.int .i64 a1_2] 40 (0,0)) qB135 hb);have n4_:=qAm (blk_below (g:=gb444) (o:=.cells #[.int .i64 0,.slice none 0 0] 28 (0,0)) qB136 hb);have n5_:=qAm (below_step qB29 hb);clear HO448 BK442 BK443 BK444 HB;have HO448:=n0_;have HO455:=n1_;have BK442:=n2_;have BK443:=n3_;have BK444:=n4_;have HB:=n5_;clear n0_ n1_ n2_ n3_ n4_ n5_
  (try clear hb)
  (try clear hb2)
  (try clear hk)
  (try clear hi)
  (try clear ho0)
  obtain⟨Ao23,co23,eo23⟩:=Kd.R_slice HO455.1
  (first|subst eo23|(injection eo23 with f1_ f2_ f3_;have f4_:=f1_.symm;have f5_:=f3_.symm;clear f1_ f2_ f3_;subst f4_;subst f5_))
  refine hK.out _ _ ⟨(blk_cell BK442.1 0).trans rfl,(blk_cell BK442.1 1).trans rfl,(blk_cell BK442.1 2).trans rfl,(blk_cell BK443.1 0).trans rfl,(blk_cell BK443.1 1).trans rfl,(blk_cell BK443.1 2).trans rfl⟩ (fun hHeld=>?_);clear hK K;refine norm_ (a':=?_) ?_ ?_;rotate_left
  ·show Act.put _ (some 24) _=_
   simp only [Act.put,qSa,qSb,qSc,i64_w,i32_w];rfl
  refine one_ (i:=11) (N:=none) #[true,true,true,true,true,true,true,true,true,true,true,true,false] rfl rfl (one_of HT_.1 (by kernel_rfl)) (by decide) (fun K hK=>?_);have hs22:w21.cell? ⟨gb444,0,none⟩=some (.int .i64 0):=(blk_cell BK444.1 0).trans rfl;have hfs22:=blk_frozen BK444.1 0;have hns22_0:=NB442_444.1;have hns22_1:=NB443_444.1;have hms22_0:=NB444_442.1;have hms22_1:=NB444_443.1;have hs24:w21.cell? ⟨gb444,1,none⟩=some (.slice none 0 0):=(blk_cell BK444.1 1).trans rfl;have hfs24:=blk_frozen BK444.1 1;have hns24_0:=NB442_444.1;have hns24_1:=NB443_444.1;have hms24_0:=NB444_442.1;have hms24_1:=NB444_443.1;refine skip_ (w1:=?_) (by rfl) rfl ?_ ?_;rotate_left
  ·go_simp;rfl
  refine hK.out _ _ ⟨((cell_far (p:=⟨gb444,_,none⟩) NB442_444.1 _).trans (((cell_far (p:=⟨gb444,_,none⟩) NB442_444.1 _).trans (hHeld.1)))),((cell_far (p:=⟨gb444,_,none⟩) NB442_444.1 _).trans (((cell_far (p:=⟨gb444,_,none⟩) NB442_444.1 _).trans (hHeld.2.1)))),((cell_far (p:=⟨gb444,_,none⟩) NB442_444.1 _).trans (((cell_far (p:=⟨gb444,_,none⟩) NB442_444.1 _).trans (hHeld.2.2.1)))),((cell_far (p:=⟨gb444,_,none⟩) NB443_444.1 _).trans (((cell_far (p:=⟨gb444,_,none⟩) NB443_444.1 _).trans (hHeld.2.2.2.1)))),((cell_far (p:=⟨gb444,_,none⟩) NB443_444.1 _).trans (((cell_far (p:=⟨gb444,_,none⟩) NB443_444.1 _).trans (hHeld.2.2.2.2.1)))),((cell_far (p:=⟨gb444,_,none⟩) NB443_444.1 _).trans (((cell_far (p:=⟨gb444,_,none⟩) NB443_444.1 _).trans (hHeld.2.2.2.2.2))))⟩ (fun hHeld=>?_);clear hK K;refine pure_ (i:=12) (N:=some 5) (v:=?_) (a':=?_) #[true,true,true,true,true,true,true,true,true,true,true,true,true] rfl rfl (any_of HT_.1 (by kernel_rfl)) (fun _ _ _ h=>h) (Or.inl ⟨by rfl,?_⟩) ?_ ?_;rotate_left
  ·intro w';go_simp;with_reducible rfl
  rotate_left
  ·simp only [Act.put,qSa,qSb,qSc,i64_w,i32_w];rfl
  refine done_ (done_of HT_.1 (by kernel_rfl)) ?_;try go_wp2
  refine bodyPost_ret (results_ct rfl _ _ gb444 28 #[.int .i64 t452,.slice Ao23 t453.length co23] (0,0) _ rfl (by (with_reducible repeat(first|refine blk_drewN ?_ _|refine blk_drew ?_|refine blk_alloc ?_ _));refine blk_put (cs:=#[.int .i64 t452,.slice none 0 0]) ?_ 1 _ rfl;(with_reducible repeat(first|refine blk_drewN ?_ _|refine blk_drew ?_|refine blk_alloc ?_ _));refine blk_put (cs:=#[.int .i64 0,.slice none 0 0]) ?_ 0 _ rfl;(with_reducible repeat(first|refine blk_drewN ?_ _|refine blk_drew ?_|refine blk_alloc ?_ _));exact BK444.1) Try.underlying28 rfl (by kernel_rfl)) rfl ?_;exact⟨_,by first|rfl|(simp [errW_none,errW_some] <;> rfl)|(simp [*,errW_none,errW_some] <;> rfl),by (with_reducible repeat(first|apply Kd.R_alloc|apply Kd.R_drewN|apply Kd.R_drew));exact Kd.R_mono (Kd.R_far (p:=⟨gb444,1,none⟩) (Kd.R_far (p:=⟨gb444,0,none⟩) (Kd.R_types HO455.1 BK444.1 (by decide)) (fun _ hk=>hk.2) (.int .i64 t452)) (fun _ hk=>hk.2) (.slice Ao23 t453.length co23)) (fun _ hk=>trivial),by repeat(first|(with_reducible first|exact HB.1|apply below_alloc|apply pw_below_drewN|apply below_drew1|refine below_set ?_ GE442.1|refine below_set ?_ GE443.1|refine below_set ?_ GE444.1)|exact HB.1)⟩
 ·rw [if_neg c4] at H;have c4b0:(t445==0)=false:=beq_eq_false_iff_ne.mpr c4;have c4b1:(t445 !=0)=true:=bne_iff_ne.mpr c4;simp only [Option.some.injEq,Prod.mk.injEq] at H;obtain⟨rfl,rfl,rfl⟩:=H;go_enter Try.func25,Try.ntmps25;go_wp2_with (first|((with_reducible refine gate_dst (N:=2) rfl ?_);refine box_event ?hg (N:=2) ?hd (cs:=#[.int .i64 a0_0,.int .i64 a0_1,.int .i64 a0_2]) (t:=40) ?hr ?_;(case hd=>rfl);(case hg=>rfl);(case hr=>first|(go_simp;done)|(go_simp;rfl));intro gb442 hg w25 hbox hb;have n0_:=qAm (below_step qB95 hb);have n1_:=qAm (hbox);have n2_:=qAm ((by rw [hg];exact(below_size qB95):w.heap.size≤gb442));have n3_:=qAm ((by rw [hg];exact(below_size qB95):w.heap.size≤gb442));clear HB;have HB:=n0_;have BK442:=n1_;have GW442:=n2_;have GE442:=n3_;clear n0_ n1_ n2_ n3_;clear hb hbox hg)|((with_reducible refine gate_dst (N:=3) rfl ?_);refine box_event ?hg (N:=3) ?hd (cs:=#[.int .i64 a1_0,.int .i64 a1_1,.int .i64 a1_2]) (t:=40) ?hr ?_;(case hd=>rfl);(case hg=>rfl);(case hr=>first|(go_simp;done)|(go_simp;rfl));intro gb443 hg w26 hbox hb;have n0_:=qAm (blk_below (g:=gb442) (o:=.cells #[.int .i64 a0_0,.int .i64 a0_1,.int .i64 a0_2] 40 (0,0)) qB134 hb);have n1_:=qAm (below_step qB70 hb);have n2_:=qAm (hbox);have n3_:=qAm ((by rw [hg];exact(below_size qB70):w.heap.size≤gb443));have n4_:=qAm ((by rw [hg];exact(below_size qB70):w.heap.size≤gb443));have n5_:=qAm ((by rw [hg];exact Nat.ne_of_lt (blk_lt (g:=gb442) (o:=.cells #[.int .i64 a0_0,.int .i64 a0_1,.int .i64 a0_2] 40 (0,0)) qB134):gb442≠gb443));have n6_:=qAm ((by rw [hg];exact Nat.ne_of_gt (blk_lt (g:=gb442) (o:=.cells #[.int .i64 a0_0,.int .i64 a0_1,.int .i64 a0_2] 40 (0,0)) qB134):gb443≠gb442));clear BK442;clear HB;have BK442:=n0_;have HB:=n1_;have BK443:=n2_;have GW443:=n3_;have GE443:=n4_;have NB442_443:=n5_;have NB443_442:=n6_;clear n0_ n1_ n2_ n3_ n4_ n5_ n6_;clear hb hbox hg)|((with_reducible refine gate_dst (N:=4) rfl ?_);refine box_event ?hg (N:=4) ?hd (cs:=#[.int .i64 0,.slice none 0 0]) (t:=28) ?hr ?_;(case hd=>rfl);(case hg=>rfl);(case hr=>first|(go_simp;done)|(go_simp;rfl));intro gb444 hg w27 hbox hb;have n0_:=qAm (blk_below (g:=gb442) (o:=.cells #[.int .i64 a0_0,.int .i64 a0_1,.int .i64 a0_2] 40 (0,0)) qB134 hb);have n1_:=qAm (blk_below (g:=gb443) (o:=.cells #[.int .i64 a1_0,.int .i64 a1_1,.int .i64 a1_2] 40 (0,0)) qB135 hb);have n2_:=qAm (below_step qB43 hb);have n3_:=qAm (hbox);have n4_:=qAm ((by rw [hg];exact(below_size qB43):w.heap.size≤gb444));have n5_:=qAm ((by rw [hg];exact(below_size qB43):w.heap.size≤gb444));have n6_:=qAm ((by rw [hg];exact Nat.ne_of_lt (blk_lt (g:=gb442) (o:=.cells #[.int .i64 a0_0,.int .i64 a0_1,.int .i64 a0_2] 40 (0,0)) qB134):gb442≠gb444));have n7_:=qAm ((by rw [hg];exact Nat.ne_of_gt (blk_lt (g:=gb442) (o:=.cells #[.int .i64 a0_0,.int .i64 a0_1,.int .i64 a0_2] 40 (0,0)) qB134):gb444≠gb442));have n8_:=qAm ((by rw [hg];exact Nat.ne_of_lt (blk_lt (g:=gb443) (o:=.cells #[.int .i64 a1_0,.int .i64 a1_1,.int .i64 a1_2] 40 (0,0)) qB135):gb443≠gb444));have n9_:=qAm ((by rw [hg];exact Nat.ne_of_gt (blk_lt (g:=gb443) (o:=.cells #[.int .i64 a1_0,.int .i64 a1_1,.int .i64 a1_2] 40 (0,0)) qB135):gb444≠gb443));clear BK442;clear BK443;clear HB;have BK442:=n0_;have BK443:=n1_;have HB:=n2_;have BK444:=n3_;have GW444:=n4_;have GE444:=n5_;have NB442_444:=n6_;have NB444_442:=n7_;have NB443_444:=n8_;have NB444_443:=n9_;clear n0_ n1_ n2_ n3_ n4_ n5_ n6_ n7_ n8_ n9_;clear hb hbox hg;have hnb28:=NB442_443.1;have hnc28:=NB443_442.1;have hnb29:=NB442_444.1;have hnc29:=NB444_442.1;have hcz30_0:w27.cell? ⟨gb442,0,none⟩=some (.int .i64 a0_0):=(blk_cell BK442.1 0).trans rfl;have hcz30_1:w27.cell? ⟨gb442,1,none⟩=some (.int .i64 a0_1):=(blk_cell BK442.1 1).trans rfl;have hcz30_2:w27.cell? ⟨gb442,2,none⟩=some (.int .i64 a0_2):=(blk_cell BK442.1 2).trans rfl;have hfz30_0:=blk_frozen BK442.1 0;have hfz30_1:=blk_frozen BK442.1 1;have hfz30_2:=blk_frozen BK442.1 2;have hnb31:=NB443_444.1;have hnc31:=NB444_443.1;have hcz32_0:w27.cell? ⟨gb443,0,none⟩=some (.int .i64 a1_0):=(blk_cell BK443.1 0).trans rfl;have hcz32_1:w27.cell? ⟨gb443,1,none⟩=some (.int .i64 a1_1):=(blk_cell BK443.1 1).trans rfl;have hcz32_2:w27.cell? ⟨gb443,2,none⟩=some (.int .i64 a1_2):=(blk_cell BK443.1 2).trans rfl;have hfz32_0:=blk_frozen BK443.1 0;have hfz32_1:=blk_frozen BK443.1 1;have hfz32_2:=blk_frozen BK443.1 2)|((with_reducible refine gate_callee (f:=75) rfl ?_);refine goesL_ (some 9) rfl rfl Try.func75 (by kernel_rfl) rfl #[.agg #[.int .i64 a0_0,.int .i64 a0_1,.int .i64 a0_2],.agg #[.int .i64 a1_0,.int .i64 a1_1,.int .i64 a1_2]] rfl qB90 ?_;(with_reducible refine(impl_pairCode.calls k a0_0 a0_1 a0_2 a1_0 a1_1 a1_2 t445 _ A3.1).mono ?_);rintro e w33 ⟨rfl,hb⟩;refine⟨_,rfl,?_⟩;have n0_:=qAm (blk_below (g:=gb442) (o:=.cells #[.int .i64 a0_0,.int .i64 a0_1,.int .i64 a0_2] 40 (0,0)) qB134 hb);have n1_:=qAm (blk_below (g:=gb443) (o:=.cells #[.int .i64 a1_0,.int .i64 a1_1,.int .i64 a1_2] 40 (0,0)) qB135 hb);have n2_:=qAm (blk_below (g:=gb444) (o:=.cells #[.int .i64 0,.slice none 0 0] 28 (0,0)) qB136 hb);have n3_:=qAm (below_step qB29 hb);clear BK442;clear BK443;clear BK444;clear HB;have BK442:=n0_;have BK443:=n1_;have BK444:=n2_;have HB:=n3_;clear n0_ n1_ n2_ n3_;(try clear hb);(try clear hb2);(try clear hk);(try clear hi);have hcz34_0:w33.cell? ⟨gb444,0,none⟩=some (.int .i64 0):=(blk_cell BK444.1 0).trans rfl;have hcz34_1:w33.cell? ⟨gb444,1,none⟩=some (.slice none 0 0):=(blk_cell BK444.1 1).trans rfl;have hfz34_0:=blk_frozen BK444.1 0;have hfz34_1:=blk_frozen BK444.1 1));refine bodyPost_ret (results_ct rfl _ _ gb444 28 #[.int .i64 0,.slice none 0 0] (0,0) _ rfl (by (with_reducible repeat(first|refine blk_drewN ?_ _|refine blk_drew ?_|refine blk_alloc ?_ _));refine blk_put (cs:=#[.int .i64 0,.slice none 0 0]) ?_ 1 _ rfl;(with_reducible repeat(first|refine blk_drewN ?_ _|refine blk_drew ?_|refine blk_alloc ?_ _));refine blk_put (cs:=#[.int .i64 0,.slice none 0 0]) ?_ 0 _ rfl;(with_reducible repeat(first|refine blk_drewN ?_ _|refine blk_drew ?_|refine blk_alloc ?_ _));exact BK444.1) Try.underlying28 rfl (by kernel_rfl)) rfl ?_;exact⟨_,by first|rfl|(simp [errW_none,errW_some] <;> rfl)|(simp [*,errW_none,errW_some] <;> rfl),by first|exact Kd.R_nil _ _ _ _ _|exact Kd.N_nil _ _ _ _ _|exact Kd.V_nil _ _ _ _ _|exact Kd.Q_nil _ _ _ _ _|exact Kd.S_nil _ _ _ _ _,by repeat(first|(with_reducible first|exact HB.1|apply below_alloc|apply pw_below_drewN|apply below_drew1|refine below_set ?_ GE442.1|refine below_set ?_ GE443.1|refine below_set ?_ GE444.1)|exact HB.1)⟩

end Go.Proofs.Ytefhabkikaadiaa.PFnExactOrthogonalSum
