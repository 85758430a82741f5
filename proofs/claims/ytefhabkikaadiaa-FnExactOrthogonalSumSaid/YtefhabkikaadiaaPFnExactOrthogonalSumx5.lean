/- The functions that the law reaches, as plain functions, each with the proof that the program comes to it; no condition. Written by a program of this session (wip/mp.py) over the printing of the kit; what is marked HAND is told by hand. -/
import Derived.Test.YtefhabkikaadiaaPFnExactOrthogonalSumx0
import Derived.Test.YtefhabkikaadiaaPFnExactOrthogonalSumx4
namespace Go.Proofs.Ytefhabkikaadiaa.PFnExactOrthogonalSum
open Go.RowKit Go.Proofs.YtefhabkikaadiaaW.PrintWords Go.Proofs.YtefhabkikaadiaaW.PrintLast Go.Proofs.YtefhabkikaadiaaW.PrintMore
attribute [local go_sem] max2_int min2_int max_two min_two max_three min_three max_four min_four   -- for this text's walks alone
set_option linter.unusedVariables false
set_option linter.unusedSimpArgs false

/-! ### spec_l01Product: function 115 -/
mutual
def spec_l01Product.l0:Nat→List Int→List Int→Int→Int→List Int→Option (Int×List Int)
 |0,_,_,_,_,_=>none
 |k+1,x1,x5,x6,x180000,x180001=>if x6<(x180001.length:Int) then (spec_l01Product.l1 k x1 x5 x6 0 x180000 x180001) else ((spec_l01Reduce.f k x180000 x5).bind fun bt184=>(some (bt184.1,bt184.2)))
def spec_l01Product.l1:Nat→List Int→List Int→Int→Int→Int→List Int→Option (Int×List Int)
 |0,_,_,_,_,_,_=>none
 |k+1,x1,x5,x6,x7,x180000,x180001=>if x7<(x1.length:Int) then (if 0≤(wrap64 (x6+x7)) then (if (wrap64 (x6+x7))<(x5.length:Int) then (if 0≤x6 then (if x6<(x180001.length:Int) then (if 0≤x7 then (spec_l01Product.l1 k x1 (x5.set ((wrap64 (x6+x7)):Int).toNat (wrap64 ((rd x5 (wrap64 (x6+x7)))+(wrap64 ((rd x180001 x6)*(rd x1 x7)))))) x6 (wrap64 (x7+1)) x180000 x180001) else (none)) else (none)) else (none)) else (none)) else (none)) else (spec_l01Product.l0 k x1 x5 (wrap64 (x6+1)) x180000 x180001)
end
def spec_l01Product.f (k:Nat) (a0_0:Int) (l0_1:List Int) (l1:List Int):Option (Int×List Int):=if 0≤(wrap64 ((wrap64 ((l0_1.length:Int)+(l1.length:Int))) - 1)) then (if (wrap64 ((wrap64 ((l0_1.length:Int)+(l1.length:Int))) - 1):Int).toNat≤35184372088832 then (spec_l01Product.l0 k l1 (List.replicate (wrap64 ((wrap64 ((l0_1.length:Int)+(l1.length:Int))) - 1):Int).toNat 0) 0 a0_0 l0_1) else (none)) else (none)
theorem spec_l01Product.mono_l:∀k,(∀y0 y1 y2 y3 y4,LeO (spec_l01Product.l0 k y0 y1 y2 y3 y4) (spec_l01Product.l0 (k+1) y0 y1 y2 y3 y4))∧(∀y0 y1 y2 y3 y4 y5,LeO (spec_l01Product.l1 k y0 y1 y2 y3 y4 y5) (spec_l01Product.l1 (k+1) y0 y1 y2 y3 y4 y5))
 |0=>⟨fun _ _ _ _ _ r h=>by simp [spec_l01Product.l0] at h,fun _ _ _ _ _ _ r h=>by simp [spec_l01Product.l1] at h⟩
 |k+1=>by
  obtain⟨ih0,ih1⟩:=spec_l01Product.mono_l k;refine⟨?_,?_⟩
  ·intro y0 y1 y2 y3 y4;unfold spec_l01Product.l0;repeat' first
   |(with_reducible exact ih0 _ _ _ _ _)
   |(with_reducible exact ih1 _ _ _ _ _ _)
   |(with_reducible exact spec_l01Reduce.mono _ _ _)
   |(with_reducible exact LeO.refl _)
   |(with_reducible exact LeO.none _)
   |(with_reducible refine LeO.ite ?_ ?_)
   |(with_reducible refine LeO.bind ?_ (fun _=>?_))
   |exact ih0 _ _ _ _ _
   |exact ih1 _ _ _ _ _ _
   |exact spec_l01Reduce.mono _ _ _
   |exact LeO.none _
   |refine LeO.ite ?_ ?_
   |refine LeO.bind ?_ (fun _=>?_)
  ·intro y0 y1 y2 y3 y4 y5;unfold spec_l01Product.l1;repeat' first
   |(with_reducible exact ih0 _ _ _ _ _)
   |(with_reducible exact ih1 _ _ _ _ _ _)
   |(with_reducible exact spec_l01Reduce.mono _ _ _)
   |(with_reducible exact LeO.refl _)
   |(with_reducible exact LeO.none _)
   |(with_reducible refine LeO.ite ?_ ?_)
   |(with_reducible refine LeO.bind ?_ (fun _=>?_))
   |exact ih0 _ _ _ _ _
   |exact ih1 _ _ _ _ _ _
   |exact spec_l01Reduce.mono _ _ _
   |exact LeO.none _
   |refine LeO.ite ?_ ?_
   |refine LeO.bind ?_ (fun _=>?_)
theorem spec_l01Product.mono:∀a0 a1 a2 k,LeO (spec_l01Product.f k a0 a1 a2) (spec_l01Product.f (k+1) a0 a1 a2):=by
 intro a0 a1 a2 k;obtain⟨ih0,ih1⟩:=spec_l01Product.mono_l k;unfold spec_l01Product.f;repeat' first
   |(with_reducible exact ih0 _ _ _ _ _)
   |(with_reducible exact ih1 _ _ _ _ _ _)
   |(with_reducible exact spec_l01Reduce.mono _ _ _)
   |(with_reducible exact LeO.refl _)
   |(with_reducible exact LeO.none _)
   |(with_reducible refine LeO.ite ?_ ?_)
   |(with_reducible refine LeO.bind ?_ (fun _=>?_))
   |exact ih0 _ _ _ _ _
   |exact ih1 _ _ _ _ _ _
   |exact spec_l01Reduce.mono _ _ _
   |exact LeO.none _
   |refine LeO.ite ?_ ?_
   |refine LeO.bind ?_ (fun _=>?_)
def spec_l01Product.T8:Bool×List (List Nat×List Nat):=(true,[([],[]),([],[]),([],[]),([1,2],[1,2]),([],[]),([],[]),([],[]),([5,6],[5,6]),([4,7],[4,7]),([8],[8]),([],[]),([10],[10]),([],[]),([11,12],[11,12]),([13],[13]),([],[]),([],[]),([15,16],[15,16]),([17],[17]),([14,18],[14,18]),([9,19],[9,19]),([0,3,0,1,2,3,4,5,6,7,8,9,10,11,12,13,14,15,16,17,18,19,20],[0,3]),([21,20,0,1,2,3,4,5,6,7,8,9,10,11,12,13,14,15,16,17,18,19,20],[20,21])])
def spec_l01Product.B8:List Nat:=[0,0,0,6,0,0,0,96,240,496,0,1024,0,7168,15360,0,0,98304,229376,523264,1048560,2097151,4194303]
theorem spec_l01Product.tab8:rtab .any (opsOf Try.f115 8)=spec_l01Product.T8:=by kernel_rfl
theorem spec_l01Product.bits8:waitsOk spec_l01Product.T8.2 spec_l01Product.B8=true:=by kernel_rfl
set_option maxHeartbeats 8000000 in
set_option maxRecDepth 100000 in
theorem spec_l01Product.calls (k:Nat) (a0_0:Int) (A0_1:Option Addr) (c0_1:Nat) (l0_1:List Int) (A1:Option Addr) (c1:Nat) (l1:List Int) (r1:Int) (r2:List Int) (w:World) (hr0_1:Kd.C (Kd.int .i64) w A0_1 l0_1.length l0_1) (hc0_1:l0_1.length≤c0_1) (hr1:Kd.C (Kd.int .i64) w A1 l1.length l1) (hc1:l1.length≤c1) (h:spec_l01Product.f k a0_0 l0_1 l1=some (r1,r2)):
  Calls Try.prog 115 #[.agg #[.int .i64 a0_0,.slice A0_1 l0_1.length c0_1],.slice A1 l1.length c1] w fun e w'=>∃v1_:Value,e=.returned (.agg #[.int .i64 r1,v1_])∧Kd.R (Kd.int .i64) 2 w' w.heap.size (fun _=>True) v1_ r2∧Below w.heap.size w w':=by
 have hu28:=Try.underlying28;have HR0_1:=qAm hr0_1;have HC0_1:=qAm hc0_1;clear hr0_1 hc0_1;have HR1:=qAm hr1;have HC1:=qAm hc1;clear hr1 hc1;have HB:=qAm (Below.refl w.heap.size w);have H:(if 0≤(wrap64 ((wrap64 ((l0_1.length:Int)+(l1.length:Int))) - 1)) then (if (wrap64 ((wrap64 ((l0_1.length:Int)+(l1.length:Int))) - 1):Int).toNat≤35184372088832 then (spec_l01Product.l0 k l1 (List.replicate (wrap64 ((wrap64 ((l0_1.length:Int)+(l1.length:Int))) - 1):Int).toNat 0) 0 a0_0 l0_1) else (none)) else (none))=some (r1,r2):=h;clear h;obtain⟨ji3,hji3⟩:∃j_:Int,(wrap64 ((wrap64 ((l0_1.length:Int)+(l1.length:Int))) - 1))=j_:=⟨_,rfl⟩
 replace H:(if 0≤(ji3) then (if (ji3:Int).toNat≤35184372088832 then (spec_l01Product.l0 k l1 (List.replicate (ji3:Int).toNat 0) 0 a0_0 l0_1) else (none)) else (none))=some (r1,r2):=by first|(rw [hji3] at H;exact H)|(simp only [hji3] at H ⊢;exact H)
 have hji3w:(IntKind.i64.wrap ((wrap64 ((l0_1.length:Int)+(l1.length:Int))) - 1))=ji3:=(i64_w _).trans hji3
 by_cases c4:0≤(ji3)
 ·rw [if_pos c4] at H;have c4b0:=eq_true c4;have c4b1:decide (0≤(ji3))=true:=decide_eq_true c4;clear c4
  by_cases c5:(ji3:Int).toNat≤35184372088832
  ·rw [if_pos c5] at H;have c5b0:=eq_true c5;have c5b1:decide ((ji3:Int).toNat≤35184372088832)=true:=decide_eq_true c5;clear c5;obtain⟨y181,hy181⟩:∃y_:List Int,y_=(List.replicate (ji3:Int).toNat 0):=⟨_,rfl⟩
   replace H:(spec_l01Product.l0 k l1 y181 0 a0_0 l0_1)=some (r1,r2):=by first|(rw [hy181];with_reducible exact H)|(have H2_:=(Option.bind_some _ _).symm.trans H;rw [hy181];with_reducible exact H2_)|(have H2_:=(Option.bind_some _ _).symm.trans H;with_reducible exact H2_)|with_reducible exact H|(rw [hy181];exact H)|exact H
   have Ny181:=qAm hy181;clear hy181;have H':=qAm H;clear H;go_enter Try.func115,Try.ntmps115;go_wp2_with (first|((with_reducible refine gate_dst (N:=2) rfl ?_);refine box_event ?hg (N:=2) ?hd (cs:=#[.int .i64 a0_0,.slice A0_1 l0_1.length c0_1]) (t:=28) ?hr ?_;(case hd=>rfl);(case hg=>rfl);(case hr=>first|(go_simp;done)|(go_simp;rfl));intro gb179 hg w6 hbox hb;have n0_:=qAm (below_step qB95 hb);have n1_:=qAm (hbox);have n2_:=qAm ((by rw [hg];exact(below_size qB95):w.heap.size≤gb179));have n3_:=qAm ((by rw [hg];exact(below_size qB95):w.heap.size≤gb179));clear HB;have HB:=n0_;have BK179:=n1_;have GW179:=n2_;have GE179:=n3_;clear n0_ n1_ n2_ n3_;clear hb hbox hg)|((with_reducible refine gate_dst (N:=4) rfl ?_);refine box_event ?hg (N:=4) ?hd (cs:=#[.int .i64 0,.slice none 0 0]) (t:=28) ?hr ?_;(case hd=>rfl);(case hg=>rfl);(case hr=>first|(go_simp;done)|(go_simp;rfl));intro gb180 hg w7 hbox hb;have n0_:=qAm (blk_below (g:=gb179) (o:=.cells #[.int .i64 a0_0,.slice A0_1 l0_1.length c0_1] 28 (0,0)) qB104 hb);have n1_:=qAm (below_step qB56 hb);have n2_:=qAm (hbox);have n3_:=qAm ((by rw [hg];exact(below_size qB56):w.heap.size≤gb180));have n4_:=qAm ((by rw [hg];exact(below_size qB56):w.heap.size≤gb180));have n5_:=qAm ((by rw [hg];exact Nat.ne_of_lt (blk_lt (g:=gb179) (o:=.cells #[.int .i64 a0_0,.slice A0_1 l0_1.length c0_1] 28 (0,0)) qB104):gb179≠gb180));have n6_:=qAm ((by rw [hg];exact Nat.ne_of_gt (blk_lt (g:=gb179) (o:=.cells #[.int .i64 a0_0,.slice A0_1 l0_1.length c0_1] 28 (0,0)) qB104):gb180≠gb179));clear BK179;clear HB;have BK179:=n0_;have HB:=n1_;have BK180:=n2_;have GW180:=n3_;have GE180:=n4_;have NB179_180:=n5_;have NB180_179:=n6_;clear n0_ n1_ n2_ n3_ n4_ n5_ n6_;clear hb hbox hg;have hnb8:=NB179_180.1;have hnc8:=NB180_179.1;have hcz9_0:w7.cell? ⟨gb179,0,none⟩=some (.int .i64 a0_0):=(blk_cell BK179.1 0).trans rfl;have hcz9_1:w7.cell? ⟨gb179,1,none⟩=some (.slice A0_1 l0_1.length c0_1):=(blk_cell BK179.1 1).trans rfl;have hfz9_0:=blk_frozen BK179.1 0;have hfz9_1:=blk_frozen BK179.1 1)|((with_reducible refine gate_dst (N:=15) rfl ?_);refine Kd.R_make (Kd.int .i64) _ 2 rfl (N:=15) rfl 22 _ _ rfl ji3 rfl rfl Try.underlying22 (.int .i64 0) 8 info2 rfl (by decide) (by omega) 0 (ok:=fun _=>True) (okp:=fun _=>True) rfl (fun _ hk=>hk) trivial (of_decide_eq_true qB177) (Nat.le_trans (Nat.mul_le_mul_right _ (of_decide_eq_true qB177:ji3.toNat≤35184372088832)) (by omega)) (Below.refl _ _) (Nat.le_refl _) ?_;intro v182 w10 ho11 hb hg_ hnew_;clear hg_ hnew_;(first|rw [← Ny181.1] at ho11|(simp only [Int.reduceToNat] at ho11;rw [← Ny181.1] at ho11));have n0_:=qAm (Kd.R_lower ho11 (below_size qB34));have n1_:=qAm (blk_below (g:=gb179) (o:=.cells #[.int .i64 a0_0,.slice A0_1 l0_1.length c0_1] 28 (0,0)) qB104 hb);have n2_:=qAm (blk_below (g:=gb180) (o:=.cells #[.int .i64 0,.slice none 0 0] 28 (0,0)) qB105 hb);have n3_:=qAm (below_step qB34 hb);clear BK179;clear BK180;clear HB;have HO183:=n0_;have BK179:=n1_;have BK180:=n2_;have HB:=n3_;clear n0_ n1_ n2_ n3_;clear hb ho11));try simp only [Act.put,qSa,qSc,qSb]
   go_loopg [6] k (fun kq v6 w'=>∃(x5_1:List Int) (x6_1:Int),v6=.int .i64 x6_1∧Aside0 (spec_l01Product.l0 kq l1 x5_1 x6_1 a0_0 l0_1=some (r1,r2))∧Aside0 (kq≤k)∧Aside0 (Kd.R (Kd.int .i64) 2 w' w.heap.size (fun _=>True) v182 x5_1)∧Aside0 (w'.heap[gb179]? =some (.cells #[.int .i64 a0_0,(.slice A0_1 l0_1.length c0_1)] 28 (0,0)))∧Aside0 (w'.heap[gb180]? =some (.cells #[.int .i64 0,(.slice none 0 0)] 28 (0,0)))∧Aside0 (Below w.heap.size w w'))
   case atStart=>exact⟨(y181),(0),qB178,H',⟨Nat.le_refl _⟩,⟨by (with_reducible repeat(first|apply Kd.R_alloc|apply Kd.R_drewN|apply Kd.R_drew));exact HO183.1⟩,⟨by (with_reducible repeat(first|refine blk_drewN ?_ _|refine blk_drew ?_|refine blk_alloc ?_ _));exact BK179.1⟩,⟨by (with_reducible repeat(first|refine blk_drewN ?_ _|refine blk_drew ?_|refine blk_alloc ?_ _));exact BK180.1⟩,⟨by repeat(first|(with_reducible first|exact HB.1|apply below_alloc|apply pw_below_drewN|apply below_drew1|refine below_set ?_ GE179.1|refine below_set ?_ GE180.1)|exact HB.1)⟩⟩
   case round=>
    clear H';try clear c1
    try clear p2
    try clear c4
    try clear c4b0
    try clear c4b1
    try clear c5
    try clear c5b0
    try clear c5b1
    try clear p6
    try clear c8
    try clear c11
    try clear hcz9_0
    try clear hcz9_1
    try clear hfz9_0
    try clear hfz9_1
    obtain⟨x5_1,x6_1,rfl,HA,HK1,HO_5,BK179,BK180,HB⟩:=hrel;cases gk with
    |zero=>exact absurd HA.1 (by simp [spec_l01Product.l0])
    |succ k1=>
     have H:=HA.1;clear HA;simp only [spec_l01Product.l0] at H
     by_cases c12:x6_1<(l0_1.length:Int)
     ·rw [if_pos c12] at H;have c12b0:decide (x6_1<(l0_1.length:Int))=true:=decide_eq_true c12;clear c12;have H':=qAm H;clear H;have hnb13:=NB179_180.1;have hnc13:=NB180_179.1;have hcz14_0:wr.cell? ⟨gb179,0,none⟩=some (.int .i64 a0_0):=(blk_cell BK179.1 0).trans rfl;have hcz14_1:wr.cell? ⟨gb179,1,none⟩=some (.slice A0_1 l0_1.length c0_1):=(blk_cell BK179.1 1).trans rfl;have hfz14_0:=blk_frozen BK179.1 0;have hfz14_1:=blk_frozen BK179.1 1;go_wp2;try simp only [Act.put,qSa,qSc,qSb]
      go_loopg [7] k1 (fun kq v7 w'=>∃(x5_2:List Int) (x7_2:Int),v7=.int .i64 x7_2∧Aside0 (spec_l01Product.l1 kq l1 x5_2 x6_1 x7_2 a0_0 l0_1=some (r1,r2))∧Aside0 (kq≤k1)∧Aside0 (Kd.R (Kd.int .i64) 2 w' w.heap.size (fun _=>True) v182 x5_2)∧Aside0 (w'.heap[gb179]? =some (.cells #[.int .i64 a0_0,(.slice A0_1 l0_1.length c0_1)] 28 (0,0)))∧Aside0 (w'.heap[gb180]? =some (.cells #[.int .i64 0,(.slice none 0 0)] 28 (0,0)))∧Aside0 (Below w.heap.size w w'))
      case atStart=>exact⟨(x5_1),(0),qB178,H',⟨Nat.le_refl _⟩,⟨by (with_reducible repeat(first|apply Kd.R_alloc|apply Kd.R_drewN|apply Kd.R_drew));exact HO_5.1⟩,⟨by (with_reducible repeat(first|refine blk_drewN ?_ _|refine blk_drew ?_|refine blk_alloc ?_ _));exact BK179.1⟩,⟨by (with_reducible repeat(first|refine blk_drewN ?_ _|refine blk_drew ?_|refine blk_alloc ?_ _));exact BK180.1⟩,⟨by repeat(first|(with_reducible first|exact HB.1|apply below_alloc|apply pw_below_drewN|apply below_drew1|refine below_set ?_ GE179.1|refine below_set ?_ GE180.1)|exact HB.1)⟩⟩
      case round=>
       clear H';try clear c1
       try clear p2
       try clear c4
       try clear c4b0
       try clear c4b1
       try clear c5
       try clear c5b0
       try clear c5b1
       try clear p6
       try clear c8
       try clear c11
       try clear c12
       try clear c12b0
       try clear c13
       try clear hcz14_0
       try clear hcz14_1
       try clear hcz9_0
       try clear hcz9_1
       try clear hfz14_0
       try clear hfz14_1
       try clear hfz9_0
       try clear hfz9_1
       try clear p2
       try clear p6
       obtain⟨x5_2,x7_2,rfl,HA,HK2,HO_5,BK179,BK180,HB⟩:=hrel;cases gk with
       |zero=>exact absurd HA.1 (by simp [spec_l01Product.l1])
       |succ k2=>
        have H:=HA.1;clear HA;simp only [spec_l01Product.l1] at H
        by_cases c15:x7_2<(l1.length:Int)
        ·rw [if_pos c15] at H;have c15b0:decide (x7_2<(l1.length:Int))=true:=decide_eq_true c15;clear c15;obtain⟨ji16,hji16⟩:∃j_:Int,(wrap64 (x6_1+x7_2))=j_:=⟨_,rfl⟩
         replace H:(if 0≤(ji16) then (if (ji16)<(x5_2.length:Int) then (if 0≤x6_1 then (if x6_1<(l0_1.length:Int) then (if 0≤x7_2 then (spec_l01Product.l1 k2 l1 (x5_2.set ((ji16):Int).toNat (wrap64 ((rd x5_2 (ji16))+(wrap64 ((rd l0_1 x6_1)*(rd l1 x7_2)))))) x6_1 (wrap64 (x7_2+1)) a0_0 l0_1) else (none)) else (none)) else (none)) else (none)) else (none))=some (r1,r2):=by first|(rw [hji16] at H;exact H)|(simp only [hji16] at H ⊢;exact H)
         have hji16w:(IntKind.i64.wrap (x6_1+x7_2))=ji16:=(i64_w _).trans hji16
         by_cases c17:0≤(ji16)
         ·rw [if_pos c17] at H;have c17b0:decide (0≤(ji16))=true:=decide_eq_true c17;clear c17
          by_cases c18:(ji16)<(x5_2.length:Int)
          ·rw [if_pos c18] at H;have c18b0:decide ((ji16)<(x5_2.length:Int))=true:=decide_eq_true c18;clear c18
           by_cases c19:0≤x6_1
           ·rw [if_pos c19] at H;have c19b0:decide (0≤x6_1)=true:=decide_eq_true c19;clear c19
            by_cases c20:x6_1<(l0_1.length:Int)
            ·rw [if_pos c20] at H;have c20b0:decide (x6_1<(l0_1.length:Int))=true:=decide_eq_true c20;clear c20
             by_cases c21:0≤x7_2
             ·rw [if_pos c21] at H;have c21b0:decide (0≤x7_2)=true:=decide_eq_true c21;clear c21;obtain⟨y191,hy191⟩:∃y_:List Int,y_=(x5_2.set ((ji16):Int).toNat (wrap64 ((rd x5_2 (ji16))+(wrap64 ((rd l0_1 x6_1)*(rd l1 x7_2)))))):=⟨_,rfl⟩
              replace H:(spec_l01Product.l1 k2 l1 y191 x6_1 (wrap64 (x7_2+1)) a0_0 l0_1)=some (r1,r2):=by first|(rw [hy191];with_reducible exact H)|(have H2_:=(Option.bind_some _ _).symm.trans H;rw [hy191];with_reducible exact H2_)|(have H2_:=(Option.bind_some _ _).symm.trans H;with_reducible exact H2_)|with_reducible exact H|(rw [hy191];exact H)|exact H
              have Ny191:=qAm hy191;clear hy191;have H':=qAm H;clear H;try go_wp2
              have n0_:=qAm (Kd.R_drew HO_5.1);have n1_:=qAm (blk_drew BK179.1);have n2_:=qAm (blk_drew BK180.1);have n3_:=qAm (below_drew1 HB.1);clear HO_5 BK179 BK180 HB;have HO_5:=n0_;have BK179:=n1_;have BK180:=n2_;have HB:=n3_;clear n0_ n1_ n2_ n3_;obtain⟨Ao24,co24,eo24⟩:=Kd.R_slice HO_5.1
              (first|subst eo24|(injection eo24 with f1_ f2_ f3_;have f4_:=f1_.symm;have f5_:=f3_.symm;clear f1_ f2_ f3_;subst f4_;subst f5_))
              have p188:0≤((ji16):Int):=of_decide_eq_true qB177;have q188:(ji16)<(x5_2.length:Int):=of_decide_eq_true qB177;obtain⟨ad188,e188,hx188_0⟩:=Kd.at_int (Kd.R_reads' HO_5.1).2.2 (ji16) p188 q188;cases e188
              replace p188:=eq_true p188;replace q188:=eq_true q188;have p189:0≤(x6_1:Int):=of_decide_eq_true qB177;have q189:x6_1<(l0_1.length:Int):=of_decide_eq_true qB177;obtain⟨ad189,e189,hx189_0⟩:=Kd.at_int HR0_1.1 x6_1 p189 q189;have hw189_0:=hx189_0;cases e189
              replace hx189_0:=(HB.1.cell (World.block_lt_of_cell? w _ hx189_0)).trans hx189_0;replace p189:=eq_true p189;replace q189:=eq_true q189;have p190:0≤(x7_2:Int):=of_decide_eq_true qB177;have q190:x7_2<(l1.length:Int):=of_decide_eq_true qB177;obtain⟨ad190,e190,hx190_0⟩:=Kd.at_int HR1.1 x7_2 p190 q190;have hw190_0:=hx190_0;cases e190
              replace hx190_0:=(HB.1.cell (World.block_lt_of_cell? w _ hx190_0)).trans hx190_0;replace p190:=eq_true p190;replace q190:=eq_true q190;have p22:0≤((ji16):Int):=of_decide_eq_true qB177;have q22:((ji16):Int)<((x5_2.length:Int):Int):=of_decide_eq_true qB177;obtain⟨go22,co22,eo22,gb22,gl22,cl22,HG22⟩:=Kd.R_form HO_5.1 (by omega)
              (first|cases eo22|(injection eo22 with ea_ en_ ec_;(first|subst ea_|(injection ea_ with ea_;subst ea_));subst ec_;clear en_))
              have GB22:=qAm gb22;have GG22:=qAm HG22;clear gb22 gl22 HG22
              (first|simp only [add_plain] at hx188_0|skip)
              obtain⟨hx22_0,hf22_0⟩:=Kd.R_celln 0 HO_5.1 ((ji16):Int) p22 q22;replace p22:=eq_true p22;replace q22:=eq_true q22;have HP25:=Kd.R_putn HO_5.1 ((ji16):Int) (wrap64 ((rd x5_2 (ji16))+(wrap64 ((rd l0_1 x6_1)*(rd l1 x7_2)))));rw [← Ny191.1] at HP25;have HQ25:=qAm HP25;clear HP25;refine start_ (n:=23) (S:=fun w'=>w'.cell? ⟨gb179,0,none⟩=some (.int .i64 a0_0)∧w'.cell? ⟨gb179,1,none⟩=some (.slice (some ad189) l0_1.length c0_1)∧w'.cell? ⟨go22,((ji16)).toNat,none⟩=some (.int .i64 (rd x5_2 (ji16)))∧w'.cell? (ad189.add (x6_1).toNat)=some (.int .i64 (rd l0_1 x6_1))∧w'.cell? (ad190.add (x7_2).toNat)=some (.int .i64 (rd l1 x7_2))) (ds:=[22]) #[false,false,false,false,false,false,false,false,false,false,false,false,false,false,false,false,false,false,false,false,false,false,false] (by kernel_rfl) rfl rfl ⟨(blk_cell BK179.1 0).trans rfl,(blk_cell BK179.1 1).trans rfl,hx188_0,((HB.1.cell (World.block_lt_of_cell? w _ hw189_0)).trans hw189_0),((HB.1.cell (World.block_lt_of_cell? w _ hw190_0)).trans hw190_0)⟩ (fun hHeld=>?_);refine with_tabW spec_l01Product.tab8 spec_l01Product.bits8 (fun HT_ HW_=>?_);generalize wr.drew=w23 at HO_5 BK179 BK180 HB GG22 HQ25 hf22_0 hx188_0 hx189_0 hx190_0 hx22_0 hHeld ⊢;refine pure_ (i:=0) (N:=some 29) (v:=?_) (a':=?_) #[true,false,false,false,false,false,false,false,false,false,false,false,false,false,false,false,false,false,false,false,false,false,false] rfl rfl (any_of HT_.1 (by kernel_rfl)) (fun _ _ _ h=>h) (Or.inl ⟨by rfl,?_⟩) ?_ ?_;rotate_left
              ·intro w';go_simp;with_reducible rfl
              rotate_left
              ·simp only [Act.put,qSa,qSb,qSc,i64_w,i32_w];rfl
              refine pure_ (i:=1) (N:=some 30) (v:=?_) (a':=?_) #[true,true,false,false,false,false,false,false,false,false,false,false,false,false,false,false,false,false,false,false,false,false,false] rfl rfl (any_of HT_.1 (by kernel_rfl)) (fun _ _ _ h=>h) (Or.inl ⟨by rfl,?_⟩) ?_ ?_;rotate_left
              ·intro w';go_simp;with_reducible rfl
              rotate_left
              ·simp only [Act.put,qSa,qSb,qSc,i64_w,i32_w];rfl
              refine pure_ (i:=2) (N:=some 31) (v:=?_) (a':=?_) #[true,true,true,false,false,false,false,false,false,false,false,false,false,false,false,false,false,false,false,false,false,false,false] rfl rfl (any_of HT_.1 (by kernel_rfl)) (fun _ _ _ h=>h) (Or.inl ⟨by rfl,?_⟩) ?_ ?_;rotate_left
              ·intro w';go_simp;with_reducible rfl
              rotate_left
              ·simp only [Act.put,qSa,qSb,qSc,i64_w,i32_w];rfl
              refine pure_ (i:=3) (N:=some 32) (v:=?_) (a':=?_) #[true,true,true,true,false,false,false,false,false,false,false,false,false,false,false,false,false,false,false,false,false,false,false] rfl rfl (any_of HT_.1 (by kernel_rfl)) (fun _ _ _ h=>h) (Or.inl ⟨by rfl,?_⟩) ?_ ?_;rotate_left
              ·intro w';go_simp;with_reducible rfl
              rotate_left
              ·simp only [Act.put,qSa,qSb,qSc,i64_w,i32_w];rfl
              refine pure_ (i:=4) (N:=some 33) (v:=?_) (a':=?_) #[true,true,true,true,true,false,false,false,false,false,false,false,false,false,false,false,false,false,false,false,false,false,false] rfl rfl (any_of HT_.1 (by kernel_rfl)) (fun _ _ _ h=>h) (Or.inl ⟨by rfl,?_⟩) ?_ ?_;rotate_left
              ·intro w';go_simp;with_reducible rfl
              rotate_left
              ·simp only [Act.put,qSa,qSb,qSc,i64_w,i32_w];rfl
              refine pure_ (i:=5) (N:=some 34) (v:=?_) (a':=?_) #[true,true,true,true,true,true,false,false,false,false,false,false,false,false,false,false,false,false,false,false,false,false,false] rfl rfl (any_of HT_.1 (by kernel_rfl)) (fun _ _ _ h=>h) (Or.inl ⟨by rfl,?_⟩) ?_ ?_;rotate_left
              ·intro w';go_simp;with_reducible rfl
              rotate_left
              ·simp only [Act.put,qSa,qSb,qSc,i64_w,i32_w];rfl
              refine pure_ (i:=6) (N:=some 35) (v:=?_) (a':=?_) #[true,true,true,true,true,true,true,false,false,false,false,false,false,false,false,false,false,false,false,false,false,false,false] rfl rfl (any_of HT_.1 (by kernel_rfl)) (fun _ _ _ h=>h) (Or.inl ⟨by rfl,?_⟩) ?_ ?_;rotate_left
              ·intro w';go_simp;with_reducible rfl
              rotate_left
              ·simp only [Act.put,qSa,qSb,qSc,i64_w,i32_w];rfl
              refine pure_ (i:=7) (N:=some 36) (v:=?_) (a':=?_) #[true,true,true,true,true,true,true,true,false,false,false,false,false,false,false,false,false,false,false,false,false,false,false] rfl rfl (any_of HT_.1 (by kernel_rfl)) (fun _ _ _ h=>h) (Or.inl ⟨by rfl,?_⟩) ?_ ?_;rotate_left
              ·intro w';go_simp;with_reducible rfl
              rotate_left
              ·simp only [Act.put,qSa,qSb,qSc,i64_w,i32_w];rfl
              refine pure_ (i:=8) (N:=some 37) (v:=?_) (a':=?_) #[true,true,true,true,true,true,true,true,true,false,false,false,false,false,false,false,false,false,false,false,false,false,false] rfl rfl (any_of HT_.1 (by kernel_rfl)) (fun _ _ _ h=>h) (Or.inl ⟨by rfl,?_⟩) ?_ ?_;rotate_left
              ·intro w';go_simp;with_reducible rfl
              rotate_left
              ·simp only [Act.put,qSa,qSb,qSc,i64_w,i32_w];rfl
              refine pure_ (i:=10) (N:=some 39) (v:=?_) (a':=?_) #[true,true,true,true,true,true,true,true,true,false,true,false,false,false,false,false,false,false,false,false,false,false,false] rfl rfl (any_of HT_.1 (by kernel_rfl)) (fun _ _ _ h=>h) (Or.inl ⟨by rfl,?_⟩) ?_ ?_;rotate_left
              ·intro w';go_simp;with_reducible rfl
              rotate_left
              ·simp only [Act.put,qSa,qSb,qSc,i64_w,i32_w];rfl
              refine pure_ (i:=12) (N:=some 41) (v:=?_) (a':=?_) #[true,true,true,true,true,true,true,true,true,false,true,false,true,false,false,false,false,false,false,false,false,false,false] rfl rfl (any_of HT_.1 (by kernel_rfl)) (fun _ _ _ h=>h) (Or.inl ⟨by rfl,?_⟩) ?_ ?_;rotate_left
              ·intro w';go_simp;with_reducible rfl
              rotate_left
              ·simp only [Act.put,qSa,qSb,qSc,i64_w,i32_w];rfl
              refine pure_ (i:=15) (N:=some 44) (v:=?_) (a':=?_) #[true,true,true,true,true,true,true,true,true,false,true,false,true,false,false,true,false,false,false,false,false,false,false] rfl rfl (any_of HT_.1 (by kernel_rfl)) (fun _ _ _ h=>h) (Or.inl ⟨by rfl,?_⟩) ?_ ?_;rotate_left
              ·intro w';go_simp;with_reducible rfl
              rotate_left
              ·simp only [Act.put,qSa,qSb,qSc,i64_w,i32_w];rfl
              refine pure_ (i:=16) (N:=some 45) (v:=?_) (a':=?_) #[true,true,true,true,true,true,true,true,true,false,true,false,true,false,false,true,true,false,false,false,false,false,false] rfl rfl (any_of HT_.1 (by kernel_rfl)) (fun _ _ _ h=>h) (Or.inl ⟨by rfl,?_⟩) ?_ ?_;rotate_left
              ·intro w';go_simp;with_reducible rfl
              rotate_left
              ·simp only [Act.put,qSa,qSb,qSc,i64_w,i32_w];rfl
              refine pure_ (i:=17) (N:=some 46) (v:=?_) (a':=?_) #[true,true,true,true,true,true,true,true,true,false,true,false,true,false,false,true,true,true,false,false,false,false,false] rfl rfl (any_of HT_.1 (by kernel_rfl)) (fun _ _ _ h=>h) (Or.inl ⟨by rfl,?_⟩) ?_ ?_;rotate_left
              ·intro w';go_simp;with_reducible rfl
              rotate_left
              ·simp only [Act.put,qSa,qSb,qSc,i64_w,i32_w];rfl
              refine take_ (i:=9) (N:=some 38) (v:=?_) (a':=?_) #[true,true,true,true,true,true,true,true,true,true,true,false,true,false,false,true,true,true,false,false,false,false,false] rfl rfl (take_ofW HT_.1 HW_.1 (by kernel_rfl)) (fun _ _ _ h=>h) (Or.inl ⟨by rfl,?_⟩) hHeld ?_ ?_;rotate_left
              ·rintro w' ⟨s0,s1,s2,s3,s4⟩;go_simp;with_reducible rfl
              rotate_left
              ·simp only [Act.put,qSa,qSb,qSc,i64_w,i32_w];rfl
              refine take_ (i:=11) (N:=some 40) (v:=?_) (a':=?_) #[true,true,true,true,true,true,true,true,true,true,true,true,true,false,false,true,true,true,false,false,false,false,false] rfl rfl (take_ofW HT_.1 HW_.1 (by kernel_rfl)) (fun _ _ _ h=>h) (Or.inl ⟨by rfl,?_⟩) hHeld ?_ ?_;rotate_left
              ·rintro w' ⟨s0,s1,s2,s3,s4⟩;go_simp;with_reducible rfl
              rotate_left
              ·simp only [Act.put,qSa,qSb,qSc,i64_w,i32_w];rfl
              refine pure_ (i:=13) (N:=some 42) (v:=?_) (a':=?_) #[true,true,true,true,true,true,true,true,true,true,true,true,true,true,false,true,true,true,false,false,false,false,false] rfl rfl (any_of HT_.1 (by kernel_rfl)) (fun _ _ _ h=>h) (Or.inl ⟨by rfl,?_⟩) ?_ ?_;rotate_left
              ·intro w';go_simp;with_reducible rfl
              rotate_left
              ·simp only [Act.put,qSa,qSb,qSc,i64_w,i32_w];rfl
              refine take_ (i:=14) (N:=some 43) (v:=?_) (a':=?_) #[true,true,true,true,true,true,true,true,true,true,true,true,true,true,true,true,true,true,false,false,false,false,false] rfl rfl (take_ofW HT_.1 HW_.1 (by kernel_rfl)) (fun _ _ _ h=>h) (Or.inl ⟨by rfl,?_⟩) hHeld ?_ ?_;rotate_left
              ·rintro w' ⟨s0,s1,s2,s3,s4⟩;go_simp;with_reducible rfl
              rotate_left
              ·simp only [Act.put,qSa,qSb,qSc,i64_w,i32_w];rfl
              refine take_ (i:=18) (N:=some 47) (v:=?_) (a':=?_) #[true,true,true,true,true,true,true,true,true,true,true,true,true,true,true,true,true,true,true,false,false,false,false] rfl rfl (take_ofW HT_.1 HW_.1 (by kernel_rfl)) (fun _ _ _ h=>h) (Or.inl ⟨by rfl,?_⟩) hHeld ?_ ?_;rotate_left
              ·rintro w' ⟨s0,s1,s2,s3,s4⟩;go_simp;with_reducible rfl
              rotate_left
              ·simp only [Act.put,qSa,qSb,qSc,i64_w,i32_w];rfl
              refine pure_ (i:=19) (N:=some 48) (v:=?_) (a':=?_) #[true,true,true,true,true,true,true,true,true,true,true,true,true,true,true,true,true,true,true,true,false,false,false] rfl rfl (any_of HT_.1 (by kernel_rfl)) (fun _ _ _ h=>h) (Or.inl ⟨by rfl,?_⟩) ?_ ?_;rotate_left
              ·intro w';go_simp;with_reducible rfl
              rotate_left
              ·simp only [Act.put,qSa,qSb,qSc,i64_w,i32_w];rfl
              refine pure_ (i:=20) (N:=some 49) (v:=?_) (a':=?_) #[true,true,true,true,true,true,true,true,true,true,true,true,true,true,true,true,true,true,true,true,true,false,false] rfl rfl (any_of HT_.1 (by kernel_rfl)) (fun _ _ _ h=>h) (Or.inl ⟨by rfl,?_⟩) ?_ ?_;rotate_left
              ·intro w';go_simp;with_reducible rfl
              rotate_left
              ·simp only [Act.put,qSa,qSb,qSc,i64_w,i32_w];rfl
              refine pure_ (i:=21) (N:=some 50) (v:=?_) (a':=?_) #[true,true,true,true,true,true,true,true,true,true,true,true,true,true,true,true,true,true,true,true,true,true,false] rfl rfl (any_of HT_.1 (by kernel_rfl)) (fun _ _ _ h=>h) (Or.inl ⟨by rfl,?_⟩) ?_ ?_;rotate_left
              ·intro w';go_simp;with_reducible rfl
              rotate_left
              ·simp only [Act.put,qSa,qSb,qSc,i64_w,i32_w];rfl
              refine last_ (i:=22) (N:=none) #[true,true,true,true,true,true,true,true,true,true,true,true,true,true,true,true,true,true,true,true,true,true,true] rfl rfl (one_of HT_.1 (by kernel_rfl)) (by decide) (fun K hK=>?_);refine skip_ (w1:=?_) (by rfl) rfl ?_ ?_;rotate_left
              ·go_simp;rfl
              refine hK.out _ _ ?_;clear hK K;refine done_ (done_of HT_.1 (by kernel_rfl)) ?_;try go_wp2
              (first|go_roundg k2|((try simp only [add_plain] at *);go_roundg k2))
              case measure=>have:=HK1.1;have:=HK2.1;omega
              case rel=>exact⟨(y191),(wrap64 (x7_2+1)),qB178,H',⟨by have:=HK1.1;have:=HK2.1;omega⟩,⟨by (with_reducible repeat(first|apply Kd.R_alloc|apply Kd.R_drewN|apply Kd.R_drew));exact HQ25.1⟩,⟨by (with_reducible repeat(first|refine blk_drewN ?_ _|refine blk_drew ?_|refine blk_alloc ?_ _));refine blk_far ?_ (by have h_:=Kd.R_ne HO_5.1 BK179.1 (by decide);intro e_;exact h_ (by rw [e_];rfl)) _;(with_reducible repeat(first|refine blk_drewN ?_ _|refine blk_drew ?_|refine blk_alloc ?_ _));exact BK179.1⟩,⟨by (with_reducible repeat(first|refine blk_drewN ?_ _|refine blk_drew ?_|refine blk_alloc ?_ _));refine blk_far ?_ (by have h_:=Kd.R_ne HO_5.1 BK180.1 (by decide);intro e_;exact h_ (by rw [e_];rfl)) _;(with_reducible repeat(first|refine blk_drewN ?_ _|refine blk_drew ?_|refine blk_alloc ?_ _));exact BK180.1⟩,⟨by repeat(first|(with_reducible first|exact HB.1|apply below_alloc|apply pw_below_drewN|apply below_drew1|refine below_set ?_ GB22.1|refine below_set ?_ GE179.1|refine below_set ?_ GE180.1)|exact HB.1)⟩⟩
             ·rw [if_neg c21] at H;exact absurd H (by simp)
            ·rw [if_neg c20] at H;exact absurd H (by simp)
           ·rw [if_neg c19] at H;exact absurd H (by simp)
          ·rw [if_neg c18] at H;exact absurd H (by simp)
         ·rw [if_neg c17] at H;exact absurd H (by simp)
        ·rw [if_neg c15] at H;have c15b0:decide (x7_2<(l1.length:Int))=false:=decide_eq_false c15;clear c15;have H':=qAm H;clear H;go_wp2
         (first|go_roundg k2|((try simp only [add_plain] at *);go_roundg k2))
         case measure=>have:=HK1.1;have:=HK2.1;omega
         case rel=>exact⟨(x5_2),(wrap64 (x6_1+1)),qB178,H',⟨by have:=HK1.1;have:=HK2.1;omega⟩,⟨by (with_reducible repeat(first|apply Kd.R_alloc|apply Kd.R_drewN|apply Kd.R_drew));exact HO_5.1⟩,⟨by (with_reducible repeat(first|refine blk_drewN ?_ _|refine blk_drew ?_|refine blk_alloc ?_ _));exact BK179.1⟩,⟨by (with_reducible repeat(first|refine blk_drewN ?_ _|refine blk_drew ?_|refine blk_alloc ?_ _));exact BK180.1⟩,⟨by repeat(first|(with_reducible first|exact HB.1|apply below_alloc|apply pw_below_drewN|apply below_drew1|refine below_set ?_ GE179.1|refine below_set ?_ GE180.1)|exact HB.1)⟩⟩
     ·rw [if_neg c12] at H;have c12b0:decide (x6_1<(l0_1.length:Int))=false:=decide_eq_false c12;clear c12;replace H:=qOb H;obtain⟨⟨t184,t185⟩,A260,H⟩:=H;replace H:(some (t184,t185))=some (r1,r2):=H;have A26:=qAm A260;clear A260;simp only [Option.some.injEq,Prod.mk.injEq] at H;obtain⟨rfl,rfl⟩:=H;have hnb27:=NB179_180.1;have hnc27:=NB180_179.1;have hcz28_0:wr.cell? ⟨gb179,0,none⟩=some (.int .i64 a0_0):=(blk_cell BK179.1 0).trans rfl;have hcz28_1:wr.cell? ⟨gb179,1,none⟩=some (.slice A0_1 l0_1.length c0_1):=(blk_cell BK179.1 1).trans rfl;have hfz28_0:=blk_frozen BK179.1 0;have hfz28_1:=blk_frozen BK179.1 1;obtain⟨Ao29,co29,eo29⟩:=Kd.R_slice HO_5.1;subst eo29;go_wp2_with (first|((with_reducible refine gate_callee (f:=134) rfl ?_);refine goesL_ (some 54) rfl rfl Try.func134 (by kernel_rfl) rfl #[.int .i64 a0_0,.slice Ao29 x5_1.length co29] rfl qB90 ?_;(with_reducible refine(spec_l01Reduce.calls k1 a0_0 _ _ x5_1 t184 t185 _ ?side1 ?side2 A26.1).mono ?_);(case side1=>repeat(first|exact(Kd.R_reads' HO_5.1).2.2|(with_reducible refine Kd.C_alloc ?_ _)|(with_reducible refine Kd.C_drewN ?_ _)|(with_reducible refine Kd.C_drew ?_)));(case side2=>exact(Kd.R_reads' HO_5.1).2.1);rintro e w30 ⟨v186,rfl,ho0,hb⟩;refine⟨_,rfl,?_⟩;have n0_:=qAm (Kd.R_elder' qB171 (Kd.R_base ho0) hb);have n1_:=qAm (Kd.R_lower (Kd.R_new' ho0 (Kd.R_lt qB171)) (below_size qB34));have n2_:=qAm (blk_below (g:=gb179) (o:=.cells #[.int .i64 a0_0,.slice A0_1 l0_1.length c0_1] 28 (0,0)) qB104 hb);have n3_:=qAm (blk_below (g:=gb180) (o:=.cells #[.int .i64 0,.slice none 0 0] 28 (0,0)) qB105 hb);have n4_:=qAm (below_step qB34 hb);clear HO_5;clear BK179;clear BK180;clear HB;have HO_5:=n0_;have HO187:=n1_;have BK179:=n2_;have BK180:=n3_;have HB:=n4_;clear n0_ n1_ n2_ n3_ n4_;(try clear hb);(try clear hb2);(try clear hk);(try clear hi);(try clear ho0);have hcz31_0:w30.cell? ⟨gb180,0,none⟩=some (.int .i64 0):=(blk_cell BK180.1 0).trans rfl;have hcz31_1:w30.cell? ⟨gb180,1,none⟩=some (.slice none 0 0):=(blk_cell BK180.1 1).trans rfl;have hfz31_0:=blk_frozen BK180.1 0;have hfz31_1:=blk_frozen BK180.1 1;obtain⟨Ao32,co32,eo32⟩:=Kd.R_slice HO187.1;subst eo32));refine bodyPost_ret (results_cell_row rfl _ _ gb180 28 #[.int .i64 t184,.slice Ao32 t185.length co32] (0,0) _ rfl (by (with_reducible repeat(first|refine blk_drewN ?_ _|refine blk_drew ?_|refine blk_alloc ?_ _));refine blk_put (cs:=#[.int .i64 t184,.slice none 0 0]) ?_ 1 _ rfl;(with_reducible repeat(first|refine blk_drewN ?_ _|refine blk_drew ?_|refine blk_alloc ?_ _));refine blk_put (cs:=#[.int .i64 0,.slice none 0 0]) ?_ 0 _ rfl;(with_reducible repeat(first|refine blk_drewN ?_ _|refine blk_drew ?_|refine blk_alloc ?_ _));exact BK180.1) Try.underlying28 rfl (by kernel_rfl)) rfl ?_;exact⟨_,by first|rfl|(simp [errW_none,errW_some] <;> rfl)|(simp only [← hji3];first|rfl|(simp [errW_none,errW_some] <;> rfl))|(simp [*,errW_none,errW_some] <;> rfl),by (with_reducible repeat(first|apply Kd.R_alloc|apply Kd.R_drewN|apply Kd.R_drew));exact Kd.R_mono (Kd.R_far (p:=⟨gb180,1,none⟩) (Kd.R_far (p:=⟨gb180,0,none⟩) (Kd.R_types HO187.1 BK180.1 (by decide)) (fun _ hk=>hk.2) (.int .i64 t184)) (fun _ hk=>hk.2) (.slice Ao32 t185.length co32)) (fun _ hk=>trivial),by repeat(first|(with_reducible first|exact HB.1|apply below_alloc|apply pw_below_drewN|apply below_drew1|refine below_set ?_ GE179.1|refine below_set ?_ GE180.1)|exact HB.1)⟩
  ·rw [if_neg c5] at H;exact absurd H (by simp)
 ·rw [if_neg c4] at H;exact absurd H (by simp)

end Go.Proofs.Ytefhabkikaadiaa.PFnExactOrthogonalSum
