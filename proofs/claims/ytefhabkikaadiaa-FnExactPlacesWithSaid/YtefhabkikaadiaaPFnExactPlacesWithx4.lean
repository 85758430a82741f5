/- The functions that the law reaches, as plain functions, each with the proof that the program comes to it; no condition. Written by a program of this session (wip/mp.py) over the printing of the kit; what is marked HAND is told by hand. -/
import Derived.Test.YtefhabkikaadiaaPFnExactPlacesWithx0
import Derived.Test.YtefhabkikaadiaaPFnExactPlacesWithx2
import Derived.Test.YtefhabkikaadiaaPFnExactPlacesWithx3
namespace Go.Proofs.Ytefhabkikaadiaa.PFnExactPlacesWith
open Go.RowKit Go.Proofs.YtefhabkikaadiaaW.PrintWords Go.Proofs.YtefhabkikaadiaaW.PrintLast Go.Proofs.YtefhabkikaadiaaW.PrintMore
attribute [local go_sem] max2_int min2_int max_two min_two max_three min_three max_four min_four   -- for this text's walks alone
set_option linter.unusedVariables false
set_option linter.unusedSimpArgs false

/-! ### spec_PlacesWith: function 10 -/
mutual
def spec_PlacesWith.j0:Nat→Int→Bool→Int→List Int→Option (List Int×Int)
  |0,_,_,_,_=>none
  |k+1,x1,x23,x155000,x155001=>if x23=true then (some (([]:List Int),2)) else ((spec_l07Roots.f k x155000 x1).bind fun t158=>(spec_PlacesWith.l0 k x1 t158 (([]:List Int)) 0 x155000 x155001))
def spec_PlacesWith.l0:Nat→Int→List Int→List Int→Int→Int→List Int→Option (List Int×Int)
  |0,_,_,_,_,_,_=>none
  |k+1,x1,x6,x7,x8,x155000,x155001=>if x8<(x6.length:Int) then (if 0≤x8 then ((spec_l07Value.f k x155001 (rd x6 x8) x1).bind fun t165=>(if t165=0 then (if x7.length<17592186044416 then (spec_PlacesWith.l0 k x1 x6 (x7 ++ [rd x6 x8]) (wrap64 (x8+1)) x155000 x155001) else (none)) else (spec_PlacesWith.l0 k x1 x6 x7 (wrap64 (x8+1)) x155000 x155001))) else (none)) else (some (x7,0))
end
def spec_PlacesWith.f (k:Nat) (a0_0:Int) (l0_1:List Int) (a1:Int):Option (List Int×Int):=(spec_l01Is.f k a0_0 l0_1).bind fun t155=>(if t155=true then ((spec_l07Code.f k a0_0 a1).bind fun t156=>(if t156=0 then ((spec_l07Fully.f a0_0 a1).bind fun t157=>(spec_PlacesWith.j0 k a1 (!t157) a0_0 l0_1)) else (spec_PlacesWith.j0 k a1 true a0_0 l0_1))) else (some (([]:List Int),1)))
theorem spec_PlacesWith.mono_l:∀k,(∀y0 y1 y2 y3,LeO (spec_PlacesWith.j0 k y0 y1 y2 y3) (spec_PlacesWith.j0 (k+1) y0 y1 y2 y3))∧(∀y0 y1 y2 y3 y4 y5,LeO (spec_PlacesWith.l0 k y0 y1 y2 y3 y4 y5) (spec_PlacesWith.l0 (k+1) y0 y1 y2 y3 y4 y5))
  |0=>⟨fun _ _ _ _ r h=>by simp [spec_PlacesWith.j0] at h,fun _ _ _ _ _ _ r h=>by simp [spec_PlacesWith.l0] at h⟩
  |k+1=>by
    obtain⟨ih0,ih1⟩:=spec_PlacesWith.mono_l k;refine⟨?_,?_⟩
    · intro y0 y1 y2 y3
      unfold spec_PlacesWith.j0;repeat' first
      |(with_reducible exact ih0 _ _ _ _)
      |(with_reducible exact ih1 _ _ _ _ _ _)
      |(with_reducible exact spec_l01Is.mono _ _ _)
      |(with_reducible exact spec_l07Code.mono _ _ _)
      |(with_reducible exact spec_l07Roots.mono _ _ _)
      |(with_reducible exact spec_l07Value.mono _ _ _ _)
      |(with_reducible exact LeO.refl _)
      |(with_reducible exact LeO.none _)
      |(with_reducible refine LeO.ite ?_ ?_)
      |(with_reducible refine LeO.bind ?_ (fun _=>?_))
      |exact ih0 _ _ _ _
      |exact ih1 _ _ _ _ _ _
      |exact spec_l01Is.mono _ _ _
      |exact spec_l07Code.mono _ _ _
      |exact spec_l07Roots.mono _ _ _
      |exact spec_l07Value.mono _ _ _ _
      |exact LeO.none _
      |refine LeO.ite ?_ ?_
      |refine LeO.bind ?_ (fun _=>?_)
    · intro y0 y1 y2 y3 y4 y5
      unfold spec_PlacesWith.l0;repeat' first
      |(with_reducible exact ih0 _ _ _ _)
      |(with_reducible exact ih1 _ _ _ _ _ _)
      |(with_reducible exact spec_l01Is.mono _ _ _)
      |(with_reducible exact spec_l07Code.mono _ _ _)
      |(with_reducible exact spec_l07Roots.mono _ _ _)
      |(with_reducible exact spec_l07Value.mono _ _ _ _)
      |(with_reducible exact LeO.refl _)
      |(with_reducible exact LeO.none _)
      |(with_reducible refine LeO.ite ?_ ?_)
      |(with_reducible refine LeO.bind ?_ (fun _=>?_))
      |exact ih0 _ _ _ _
      |exact ih1 _ _ _ _ _ _
      |exact spec_l01Is.mono _ _ _
      |exact spec_l07Code.mono _ _ _
      |exact spec_l07Roots.mono _ _ _
      |exact spec_l07Value.mono _ _ _ _
      |exact LeO.none _
      |refine LeO.ite ?_ ?_
      |refine LeO.bind ?_ (fun _=>?_)
theorem spec_PlacesWith.mono:∀a0 a1 a2 k,LeO (spec_PlacesWith.f k a0 a1 a2) (spec_PlacesWith.f (k+1) a0 a1 a2):=by
  intro a0 a1 a2 k;obtain⟨ih0,ih1⟩:=spec_PlacesWith.mono_l k;unfold spec_PlacesWith.f;repeat' first
      |(with_reducible exact ih0 _ _ _ _)
      |(with_reducible exact ih1 _ _ _ _ _ _)
      |(with_reducible exact spec_l01Is.mono _ _ _)
      |(with_reducible exact spec_l07Code.mono _ _ _)
      |(with_reducible exact spec_l07Roots.mono _ _ _)
      |(with_reducible exact spec_l07Value.mono _ _ _ _)
      |(with_reducible exact LeO.refl _)
      |(with_reducible exact LeO.none _)
      |(with_reducible refine LeO.ite ?_ ?_)
      |(with_reducible refine LeO.bind ?_ (fun _=>?_))
      |exact ih0 _ _ _ _
      |exact ih1 _ _ _ _ _ _
      |exact spec_l01Is.mono _ _ _
      |exact spec_l07Code.mono _ _ _
      |exact spec_l07Roots.mono _ _ _
      |exact spec_l07Value.mono _ _ _ _
      |exact LeO.none _
      |refine LeO.ite ?_ ?_
      |refine LeO.bind ?_ (fun _=>?_)
set_option maxHeartbeats 8000000 in
set_option maxRecDepth 100000 in
theorem spec_PlacesWith.calls (k:Nat) (a0_0:Int) (A0_1:Option Addr) (c0_1:Nat) (l0_1:List Int) (a1:Int) (r1:List Int) (r2:Int) (w:World) (hr0_1:Kd.C (Kd.int .i64) w A0_1 l0_1.length l0_1) (hc0_1:l0_1.length≤c0_1) (h:spec_PlacesWith.f k a0_0 l0_1 a1=some (r1,r2)):
    Calls Try.prog 10 #[.agg #[.int .i64 a0_0,.slice A0_1 l0_1.length c0_1],.int .i64 a1] w fun e w'=>∃v0_:Value,e=.returned (.tuple #[v0_,.int .i64 r2])∧Kd.R (Kd.int .i64) 2 w' w.heap.size (fun _=>True) v0_ r1∧Below w.heap.size w w':=by
  have hu28:=Try.underlying28;have HR0_1:=qAm hr0_1;have HC0_1:=qAm hc0_1;clear hr0_1 hc0_1;have HB:=qAm (Below.refl w.heap.size w);have H:((spec_l01Is.f k a0_0 l0_1).bind fun t155=>(if t155=true then ((spec_l07Code.f k a0_0 a1).bind fun t156=>(if t156=0 then ((spec_l07Fully.f a0_0 a1).bind fun t157=>(spec_PlacesWith.j0 k a1 (!t157) a0_0 l0_1)) else (spec_PlacesWith.j0 k a1 true a0_0 l0_1))) else (some (([]:List Int),1))))=some (r1,r2):=h;clear h;replace H:=qOb H;obtain⟨t155,A30,H⟩:=H;replace H:(if t155=true then ((spec_l07Code.f k a0_0 a1).bind fun t156=>(if t156=0 then ((spec_l07Fully.f a0_0 a1).bind fun t157=>(spec_PlacesWith.j0 k a1 (!t157) a0_0 l0_1)) else (spec_PlacesWith.j0 k a1 true a0_0 l0_1))) else (some (([]:List Int),1)))=some (r1,r2):=H;have A3:=qAm A30;clear A30
  by_cases c4:t155=true
  · subst c4
    have H1:((spec_l07Code.f k a0_0 a1).bind fun t156=>(if t156=0 then ((spec_l07Fully.f a0_0 a1).bind fun t157=>(spec_PlacesWith.j0 k a1 (!t157) a0_0 l0_1)) else (spec_PlacesWith.j0 k a1 true a0_0 l0_1)))=some (r1,r2):=by rw [if_pos rfl] at H;exact H
    clear H;have H:=H1;clear H1;have HC5:=qAm H;clear H;go_enter Try.func10,Try.ntmps10;go_upto_region 3 with (first|((with_reducible refine gate_dst (N:=2) rfl ?_);refine box_event ?hg (N:=2) ?hd (cs:=#[.int .i64 a0_0,.slice A0_1 l0_1.length c0_1]) (t:=28) ?hr ?_;(case hd=>rfl);(case hg=>rfl);(case hr=>first|(go_simp;done)|(go_simp;rfl));intro gb154 hg w6 hbox hb;have n0_:=qAm (below_step qB15 hb);have n1_:=qAm (hbox);have n2_:=qAm ((by rw [hg];exact(below_size qB15):w.heap.size≤gb154));have n3_:=qAm ((by rw [hg];exact(below_size qB15):w.heap.size≤gb154));clear HB;have HB:=n0_;have BK154:=n1_;have GW154:=n2_;have GE154:=n3_;clear n0_ n1_ n2_ n3_;clear hb hbox hg;have hcz7_0:w6.cell? ⟨gb154,0,none⟩=some (.int .i64 a0_0):=(blk_cell BK154.1 0).trans rfl;have hcz7_1:w6.cell? ⟨gb154,1,none⟩=some (.slice A0_1 l0_1.length c0_1):=(blk_cell BK154.1 1).trans rfl;have hfz7_0:=blk_frozen BK154.1 0;have hfz7_1:=blk_frozen BK154.1 1)|(go_at_call 54;(with_reducible refine(spec_l01Is.calls k a0_0 _ _ l0_1 true _ ?side1 ?side2 A3.1).mono ?_);(case side1=>repeat(first|exact(Kd.C_below HR0_1.1 HB.1)|(with_reducible refine Kd.C_alloc ?_ _)|(with_reducible refine Kd.C_drewN ?_ _)|(with_reducible refine Kd.C_drew ?_)));(case side2=>exact HC0_1.1);rintro e w8 ⟨rfl,hb⟩;have n0_:=qAm (blk_below (g:=gb154) (o:=.cells #[.int .i64 a0_0,.slice A0_1 l0_1.length c0_1] 28 (0,0)) qB18 hb);have n1_:=qAm (below_step qB8 hb);clear BK154;clear HB;have BK154:=n0_;have HB:=n1_;clear n0_ n1_;(try clear hb);(try clear hb2);(try clear hk);(try clear hi)))
    repeat(go_quiet (first|((with_reducible refine gate_dst (N:=2) rfl ?_);refine box_event ?hg (N:=2) ?hd (cs:=#[.int .i64 a0_0,.slice A0_1 l0_1.length c0_1]) (t:=28) ?hr ?_;(case hd=>rfl);(case hg=>rfl);(case hr=>first|(go_simp;done)|(go_simp;rfl));intro gb154 hg w6 hbox hb;have n0_:=qAm (below_step qB15 hb);have n1_:=qAm (hbox);have n2_:=qAm ((by rw [hg];exact(below_size qB15):w.heap.size≤gb154));have n3_:=qAm ((by rw [hg];exact(below_size qB15):w.heap.size≤gb154));clear HB;have HB:=n0_;have BK154:=n1_;have GW154:=n2_;have GE154:=n3_;clear n0_ n1_ n2_ n3_;clear hb hbox hg;have hcz7_0:w6.cell? ⟨gb154,0,none⟩=some (.int .i64 a0_0):=(blk_cell BK154.1 0).trans rfl;have hcz7_1:w6.cell? ⟨gb154,1,none⟩=some (.slice A0_1 l0_1.length c0_1):=(blk_cell BK154.1 1).trans rfl;have hfz7_0:=blk_frozen BK154.1 0;have hfz7_1:=blk_frozen BK154.1 1)|(go_at_call 54;(with_reducible refine(spec_l01Is.calls k a0_0 _ _ l0_1 true _ ?side1 ?side2 A3.1).mono ?_);(case side1=>repeat(first|exact(Kd.C_below HR0_1.1 HB.1)|(with_reducible refine Kd.C_alloc ?_ _)|(with_reducible refine Kd.C_drewN ?_ _)|(with_reducible refine Kd.C_drew ?_)));(case side2=>exact HC0_1.1);rintro e w8 ⟨rfl,hb⟩;have n0_:=qAm (blk_below (g:=gb154) (o:=.cells #[.int .i64 a0_0,.slice A0_1 l0_1.length c0_1] 28 (0,0)) qB18 hb);have n1_:=qAm (below_step qB8 hb);clear BK154;clear HB;have BK154:=n0_;have HB:=n1_;clear n0_ n1_;(try clear hb);(try clear hb2);(try clear hk);(try clear hi)));go_upto_region 3 with (first|((with_reducible refine gate_dst (N:=2) rfl ?_);refine box_event ?hg (N:=2) ?hd (cs:=#[.int .i64 a0_0,.slice A0_1 l0_1.length c0_1]) (t:=28) ?hr ?_;(case hd=>rfl);(case hg=>rfl);(case hr=>first|(go_simp;done)|(go_simp;rfl));intro gb154 hg w6 hbox hb;have n0_:=qAm (below_step qB15 hb);have n1_:=qAm (hbox);have n2_:=qAm ((by rw [hg];exact(below_size qB15):w.heap.size≤gb154));have n3_:=qAm ((by rw [hg];exact(below_size qB15):w.heap.size≤gb154));clear HB;have HB:=n0_;have BK154:=n1_;have GW154:=n2_;have GE154:=n3_;clear n0_ n1_ n2_ n3_;clear hb hbox hg;have hcz7_0:w6.cell? ⟨gb154,0,none⟩=some (.int .i64 a0_0):=(blk_cell BK154.1 0).trans rfl;have hcz7_1:w6.cell? ⟨gb154,1,none⟩=some (.slice A0_1 l0_1.length c0_1):=(blk_cell BK154.1 1).trans rfl;have hfz7_0:=blk_frozen BK154.1 0;have hfz7_1:=blk_frozen BK154.1 1)|(go_at_call 54;(with_reducible refine(spec_l01Is.calls k a0_0 _ _ l0_1 true _ ?side1 ?side2 A3.1).mono ?_);(case side1=>repeat(first|exact(Kd.C_below HR0_1.1 HB.1)|(with_reducible refine Kd.C_alloc ?_ _)|(with_reducible refine Kd.C_drewN ?_ _)|(with_reducible refine Kd.C_drew ?_)));(case side2=>exact HC0_1.1);rintro e w8 ⟨rfl,hb⟩;have n0_:=qAm (blk_below (g:=gb154) (o:=.cells #[.int .i64 a0_0,.slice A0_1 l0_1.length c0_1] 28 (0,0)) qB18 hb);have n1_:=qAm (below_step qB8 hb);clear BK154;clear HB;have BK154:=n0_;have HB:=n1_;clear n0_ n1_;(try clear hb);(try clear hb2);(try clear hk);(try clear hi))))
    (try simp only [Act.put,qSa,qSb,qSc])
    go_cut [23] (fun v23 wc=>∃(kq:Nat) (x23_4:Bool),v23=.bool x23_4∧Aside0 (spec_PlacesWith.j0 kq a1 x23_4 a0_0 l0_1=some (r1,r2))∧Aside0 (kq≤k)∧Aside0 (wc.heap[gb154]? =some (.cells #[.int .i64 a0_0,(.slice A0_1 l0_1.length c0_1)] 28 (0,0)))∧Aside0 (Below w.heap.size w wc))
    case first=>
      have H:=HC5.1;clear HC5;replace H:=qOb H;obtain⟨t156,A90,H⟩:=H;replace H:(if t156=0 then ((spec_l07Fully.f a0_0 a1).bind fun t157=>(spec_PlacesWith.j0 k a1 (!t157) a0_0 l0_1)) else (spec_PlacesWith.j0 k a1 true a0_0 l0_1))=some (r1,r2):=H;have A9:=qAm A90;clear A90
      by_cases c10:t156=0
      · rw [if_pos c10] at H
        have c10b0:(t156==0)=true:=beq_iff_eq.mpr c10;have c10b1:(t156 !=0)=false:=bne_eq_false_iff_eq.mpr c10;clear c10
        (first|rw [c10b0]|(simp only [i64_w,i32_w];rw [c10b0])|skip)
        replace H:=qOb H;obtain⟨t157,A110,H⟩:=H;replace H:(spec_PlacesWith.j0 k a1 (!t157) a0_0 l0_1)=some (r1,r2):=H;have A11:=qAm A110;clear A110;have H':=qAm H;clear H;have hcz12_0:w8.cell? ⟨gb154,0,none⟩=some (.int .i64 a0_0):=(blk_cell BK154.1 0).trans rfl;have hcz12_1:w8.cell? ⟨gb154,1,none⟩=some (.slice A0_1 l0_1.length c0_1):=(blk_cell BK154.1 1).trans rfl;have hfz12_0:=blk_frozen BK154.1 0;have hfz12_1:=blk_frozen BK154.1 1;go_wp2_with (first|(go_at_call 55;(with_reducible refine(spec_l07Code.calls k a0_0 a1 t156 _ A9.1).mono ?_);rintro e w' ⟨rfl,⟨nd,rfl⟩⟩;(try first|exact⟨rfl,_,World.drewN_drewN _ _ _⟩|exact⟨rfl,_,Eq.trans (World.drewN_drewN _ _ _) (congrArg (World.drewN _) (Nat.add_assoc _ _ _))⟩))|(go_at_call 56;(with_reducible refine(spec_l07Fully.calls a0_0 a1 t157 _ A11.1).mono ?_);rintro e w' ⟨rfl,⟨nd,rfl⟩⟩;(try first|exact⟨rfl,_,World.drewN_drewN _ _ _⟩|exact⟨rfl,_,Eq.trans (World.drewN_drewN _ _ _) (congrArg (World.drewN _) (Nat.add_assoc _ _ _))⟩)));repeat(go_quiet (first|(go_at_call 55;(with_reducible refine(spec_l07Code.calls k a0_0 a1 t156 _ A9.1).mono ?_);rintro e w' ⟨rfl,⟨nd,rfl⟩⟩;(try first|exact⟨rfl,_,World.drewN_drewN _ _ _⟩|exact⟨rfl,_,Eq.trans (World.drewN_drewN _ _ _) (congrArg (World.drewN _) (Nat.add_assoc _ _ _))⟩))|(go_at_call 56;(with_reducible refine(spec_l07Fully.calls a0_0 a1 t157 _ A11.1).mono ?_);rintro e w' ⟨rfl,⟨nd,rfl⟩⟩;(try first|exact⟨rfl,_,World.drewN_drewN _ _ _⟩|exact⟨rfl,_,Eq.trans (World.drewN_drewN _ _ _) (congrArg (World.drewN _) (Nat.add_assoc _ _ _))⟩)));try go_wp2_with (first|(go_at_call 55;(with_reducible refine(spec_l07Code.calls k a0_0 a1 t156 _ A9.1).mono ?_);rintro e w' ⟨rfl,⟨nd,rfl⟩⟩;(try first|exact⟨rfl,_,World.drewN_drewN _ _ _⟩|exact⟨rfl,_,Eq.trans (World.drewN_drewN _ _ _) (congrArg (World.drewN _) (Nat.add_assoc _ _ _))⟩))|(go_at_call 56;(with_reducible refine(spec_l07Fully.calls a0_0 a1 t157 _ A11.1).mono ?_);rintro e w' ⟨rfl,⟨nd,rfl⟩⟩;(try first|exact⟨rfl,_,World.drewN_drewN _ _ _⟩|exact⟨rfl,_,Eq.trans (World.drewN_drewN _ _ _) (congrArg (World.drewN _) (Nat.add_assoc _ _ _))⟩))))
        go_meet
        case rel=>exact⟨_,(!t157),qB41,H',⟨by first|omega|exact Nat.le_refl _⟩,⟨by (with_reducible repeat(first|refine blk_drewN ?_ _|refine blk_drew ?_|refine blk_alloc ?_ _));exact BK154.1⟩,⟨by repeat(first|(with_reducible first|exact HB.1|apply below_alloc|apply pw_below_drewN|apply below_drew1|refine below_set ?_ GE154.1)|exact HB.1)⟩⟩
      · rw [if_neg c10] at H
        have c10b0:(t156==0)=false:=beq_eq_false_iff_ne.mpr c10;have c10b1:(t156 !=0)=true:=bne_iff_ne.mpr c10
        (first|rw [c10b0]|(simp only [i64_w,i32_w];rw [c10b0])|skip)
        have H':=qAm H;clear H;have hcz13_0:w8.cell? ⟨gb154,0,none⟩=some (.int .i64 a0_0):=(blk_cell BK154.1 0).trans rfl;have hcz13_1:w8.cell? ⟨gb154,1,none⟩=some (.slice A0_1 l0_1.length c0_1):=(blk_cell BK154.1 1).trans rfl;have hfz13_0:=blk_frozen BK154.1 0;have hfz13_1:=blk_frozen BK154.1 1;go_wp2_with (first|(go_at_call 55;(with_reducible refine(spec_l07Code.calls k a0_0 a1 t156 _ A9.1).mono ?_);rintro e w' ⟨rfl,⟨nd,rfl⟩⟩;(try first|exact⟨rfl,_,World.drewN_drewN _ _ _⟩|exact⟨rfl,_,Eq.trans (World.drewN_drewN _ _ _) (congrArg (World.drewN _) (Nat.add_assoc _ _ _))⟩)));repeat(go_quiet (first|(go_at_call 55;(with_reducible refine(spec_l07Code.calls k a0_0 a1 t156 _ A9.1).mono ?_);rintro e w' ⟨rfl,⟨nd,rfl⟩⟩;(try first|exact⟨rfl,_,World.drewN_drewN _ _ _⟩|exact⟨rfl,_,Eq.trans (World.drewN_drewN _ _ _) (congrArg (World.drewN _) (Nat.add_assoc _ _ _))⟩)));try go_wp2_with (first|(go_at_call 55;(with_reducible refine(spec_l07Code.calls k a0_0 a1 t156 _ A9.1).mono ?_);rintro e w' ⟨rfl,⟨nd,rfl⟩⟩;(try first|exact⟨rfl,_,World.drewN_drewN _ _ _⟩|exact⟨rfl,_,Eq.trans (World.drewN_drewN _ _ _) (congrArg (World.drewN _) (Nat.add_assoc _ _ _))⟩))))
        go_meet
        case rel=>exact⟨_,(true),qB41,H',⟨by first|omega|exact Nat.le_refl _⟩,⟨by (with_reducible repeat(first|refine blk_drewN ?_ _|refine blk_drew ?_|refine blk_alloc ?_ _));exact BK154.1⟩,⟨by repeat(first|(with_reducible first|exact HB.1|apply below_alloc|apply pw_below_drewN|apply below_drew1|refine below_set ?_ GE154.1)|exact HB.1)⟩⟩
    case rest=>
      clear HC5;try clear c1
      try clear p2
      try clear c4
      try clear c10
      try clear c10b0
      try clear c10b1
      try clear hcz12_0
      try clear hcz12_1
      try clear hcz13_0
      try clear hcz13_1
      try clear hcz7_0
      try clear hcz7_1
      try clear hfz12_0
      try clear hfz12_1
      try clear hfz13_0
      try clear hfz13_1
      try clear hfz7_0
      try clear hfz7_1
      obtain⟨kq,x23_4,rfl,HA,HJ4,BK154,HB⟩:=hcut;cases kq with
      |zero=>exact absurd HA.1 (by simp [spec_PlacesWith.j0])
      |succ kj4=>
        have H:=HA.1;clear HA;simp only [spec_PlacesWith.j0] at H
        by_cases c14:x23_4=true
        · subst c14
          have H1:(some (([]:List Int),2))=some (r1,r2):=by rw [if_pos rfl] at H;exact H
          clear H;have H:=H1;clear H1;simp only [Option.some.injEq,Prod.mk.injEq] at H;obtain⟨rfl,rfl⟩:=H;go_wp2;repeat(go_quiet (fail);try go_wp2)
          go_ret2;exact⟨_,by first|rfl|(simp [errW_none,errW_some] <;> rfl)|(simp [*,errW_none,errW_some] <;> rfl),by first|exact Kd.R_nil _ _ _ _ _|exact Kd.N_nil _ _ _ _ _|exact Kd.V_nil _ _ _ _ _|exact Kd.Q_nil _ _ _ _ _|exact Kd.S_nil _ _ _ _ _,by repeat(first|(with_reducible first|exact HB.1|apply below_alloc|apply pw_below_drewN|apply below_drew1|refine below_set ?_ GE154.1)|exact HB.1)⟩
        · replace c14:=Bool.eq_false_iff.mpr c14
          subst c14;have H1:((spec_l07Roots.f kj4 a0_0 a1).bind fun t158=>(spec_PlacesWith.l0 kj4 a1 t158 (([]:List Int)) 0 a0_0 l0_1))=some (r1,r2):=by rw [if_neg (show ¬(false=true) by decide)] at H;exact H
          clear H;have H:=H1;clear H1;replace H:=qOb H;obtain⟨t158,A150,H⟩:=H;replace H:(spec_PlacesWith.l0 kj4 a1 t158 (([]:List Int)) 0 a0_0 l0_1)=some (r1,r2):=H;have A15:=qAm A150;clear A150;obtain⟨y161,hy161⟩:∃y_:List Int,y_=(([]:List Int)):=⟨_,rfl⟩
          replace H:(spec_PlacesWith.l0 kj4 a1 t158 y161 0 a0_0 l0_1)=some (r1,r2):=by first|(rw [hy161];with_reducible exact H)|(have H2_:=(Option.bind_some _ _).symm.trans H;rw [hy161];with_reducible exact H2_)|(have H2_:=(Option.bind_some _ _).symm.trans H;with_reducible exact H2_)|with_reducible exact H|(rw [hy161];exact H)|exact H
          have Ny161:=qAm hy161;clear hy161;have H':=qAm H;clear H;have hcz16_0:wc.cell? ⟨gb154,0,none⟩=some (.int .i64 a0_0):=(blk_cell BK154.1 0).trans rfl;have hcz16_1:wc.cell? ⟨gb154,1,none⟩=some (.slice A0_1 l0_1.length c0_1):=(blk_cell BK154.1 1).trans rfl;have hfz16_0:=blk_frozen BK154.1 0;have hfz16_1:=blk_frozen BK154.1 1;go_wp2_with (first|(go_at_call 57;(with_reducible refine(spec_l07Roots.calls kj4 a0_0 a1 t158 _ A15.1).mono ?_);rintro e w17 ⟨v159,rfl,ho0,hb⟩;have n0_:=qAm (Kd.R_lower ho0 (below_size qB8));have n1_:=qAm (blk_below (g:=gb154) (o:=.cells #[.int .i64 a0_0,.slice A0_1 l0_1.length c0_1] 28 (0,0)) qB18 hb);have n2_:=qAm (below_step qB8 hb);clear BK154;clear HB;have HO160:=n0_;have BK154:=n1_;have HB:=n2_;clear n0_ n1_ n2_;(try clear hb);(try clear hb2);(try clear hk);(try clear hi);(try clear ho0))|((with_reducible refine gate_dst (N:=28) rfl ?_);refine Kd.R_lit (Kd.int .i64) _ 2 ?hg (N:=28) ?hd (xs:=([]:List Int)) (inner:=[]) (ok:=fun _=>True) (okp:=fun _=>True) ?hr ?hp (fun _ hk=>hk) trivial (Below.refl _ _) (Nat.le_refl _) (by simp) ?_;(case hd=>rfl);(case hg=>rfl);(case hr=>first|(go_simp;done)|(go_simp;rfl));(case hp=>exact(Reps.none _ _));intro v162 w18 ho19 hb hg_ hnew_;clear hg_ hnew_;(first|rw [← Ny161.1] at ho19|(simp only [Int.reduceToNat] at ho19;rw [← Ny161.1] at ho19));have n0_:=qAm (Kd.R_elder' qB29 (Kd.R_base ho19) hb);have n1_:=qAm (Kd.R_lower (Kd.R_new' ho19 (Kd.R_lt qB29)) (below_size qB8));have n2_:=qAm (blk_below (g:=gb154) (o:=.cells #[.int .i64 a0_0,.slice A0_1 l0_1.length c0_1] 28 (0,0)) qB18 hb);have n3_:=qAm (below_step qB8 hb);clear HO160;clear BK154;clear HB;have HO160:=n0_;have HO163:=n1_;have BK154:=n2_;have HB:=n3_;clear n0_ n1_ n2_ n3_;clear hb ho19));repeat(go_quiet (first|(go_at_call 57;(with_reducible refine(spec_l07Roots.calls kj4 a0_0 a1 t158 _ A15.1).mono ?_);rintro e w17 ⟨v159,rfl,ho0,hb⟩;have n0_:=qAm (Kd.R_lower ho0 (below_size qB8));have n1_:=qAm (blk_below (g:=gb154) (o:=.cells #[.int .i64 a0_0,.slice A0_1 l0_1.length c0_1] 28 (0,0)) qB18 hb);have n2_:=qAm (below_step qB8 hb);clear BK154;clear HB;have HO160:=n0_;have BK154:=n1_;have HB:=n2_;clear n0_ n1_ n2_;(try clear hb);(try clear hb2);(try clear hk);(try clear hi);(try clear ho0))|((with_reducible refine gate_dst (N:=28) rfl ?_);refine Kd.R_lit (Kd.int .i64) _ 2 ?hg (N:=28) ?hd (xs:=([]:List Int)) (inner:=[]) (ok:=fun _=>True) (okp:=fun _=>True) ?hr ?hp (fun _ hk=>hk) trivial (Below.refl _ _) (Nat.le_refl _) (by simp) ?_;(case hd=>rfl);(case hg=>rfl);(case hr=>first|(go_simp;done)|(go_simp;rfl));(case hp=>exact(Reps.none _ _));intro v162 w18 ho19 hb hg_ hnew_;clear hg_ hnew_;(first|rw [← Ny161.1] at ho19|(simp only [Int.reduceToNat] at ho19;rw [← Ny161.1] at ho19));have n0_:=qAm (Kd.R_elder' qB29 (Kd.R_base ho19) hb);have n1_:=qAm (Kd.R_lower (Kd.R_new' ho19 (Kd.R_lt qB29)) (below_size qB8));have n2_:=qAm (blk_below (g:=gb154) (o:=.cells #[.int .i64 a0_0,.slice A0_1 l0_1.length c0_1] 28 (0,0)) qB18 hb);have n3_:=qAm (below_step qB8 hb);clear HO160;clear BK154;clear HB;have HO160:=n0_;have HO163:=n1_;have BK154:=n2_;have HB:=n3_;clear n0_ n1_ n2_ n3_;clear hb ho19));try go_wp2_with (first|(go_at_call 57;(with_reducible refine(spec_l07Roots.calls kj4 a0_0 a1 t158 _ A15.1).mono ?_);rintro e w17 ⟨v159,rfl,ho0,hb⟩;have n0_:=qAm (Kd.R_lower ho0 (below_size qB8));have n1_:=qAm (blk_below (g:=gb154) (o:=.cells #[.int .i64 a0_0,.slice A0_1 l0_1.length c0_1] 28 (0,0)) qB18 hb);have n2_:=qAm (below_step qB8 hb);clear BK154;clear HB;have HO160:=n0_;have BK154:=n1_;have HB:=n2_;clear n0_ n1_ n2_;(try clear hb);(try clear hb2);(try clear hk);(try clear hi);(try clear ho0))|((with_reducible refine gate_dst (N:=28) rfl ?_);refine Kd.R_lit (Kd.int .i64) _ 2 ?hg (N:=28) ?hd (xs:=([]:List Int)) (inner:=[]) (ok:=fun _=>True) (okp:=fun _=>True) ?hr ?hp (fun _ hk=>hk) trivial (Below.refl _ _) (Nat.le_refl _) (by simp) ?_;(case hd=>rfl);(case hg=>rfl);(case hr=>first|(go_simp;done)|(go_simp;rfl));(case hp=>exact(Reps.none _ _));intro v162 w18 ho19 hb hg_ hnew_;clear hg_ hnew_;(first|rw [← Ny161.1] at ho19|(simp only [Int.reduceToNat] at ho19;rw [← Ny161.1] at ho19));have n0_:=qAm (Kd.R_elder' qB29 (Kd.R_base ho19) hb);have n1_:=qAm (Kd.R_lower (Kd.R_new' ho19 (Kd.R_lt qB29)) (below_size qB8));have n2_:=qAm (blk_below (g:=gb154) (o:=.cells #[.int .i64 a0_0,.slice A0_1 l0_1.length c0_1] 28 (0,0)) qB18 hb);have n3_:=qAm (below_step qB8 hb);clear HO160;clear BK154;clear HB;have HO160:=n0_;have HO163:=n1_;have BK154:=n2_;have HB:=n3_;clear n0_ n1_ n2_ n3_;clear hb ho19)))
          try simp only [Act.put,qSa,qSc,qSb]
          go_loopg [7,8] kj4 (fun kq v7 v8 w'=>∃(x7_2:List Int) (x8_2:Int),v8=.int .i64 x8_2∧Aside0 (spec_PlacesWith.l0 kq a1 t158 x7_2 x8_2 a0_0 l0_1=some (r1,r2))∧Aside0 (kq≤kj4)∧Aside0 (Kd.R (Kd.int .i64) 2 w' w.heap.size (fun k_=>some k_≠(v7:Value).ownBlock) v159 t158)∧Aside0 (Kd.R (Kd.int .i64) 2 w' w.heap.size (fun k_=>some k_≠(v159:Value).ownBlock) v7 x7_2)∧Aside0 (w'.heap[gb154]? =some (.cells #[.int .i64 a0_0,(.slice A0_1 l0_1.length c0_1)] 28 (0,0)))∧Aside0 (Below w.heap.size w w'))
          case atStart=>exact⟨(y161),(0),qB41,H',⟨Nat.le_refl _⟩,⟨by (with_reducible repeat(first|apply Kd.R_alloc|apply Kd.R_drewN|apply Kd.R_drew));exact Kd.R_mono HO160.1 (fun _ hk=>hk.2)⟩,⟨by (with_reducible repeat(first|apply Kd.R_alloc|apply Kd.R_drewN|apply Kd.R_drew));exact Kd.R_mono HO163.1 (fun _ hk=>hk.2)⟩,⟨by (with_reducible repeat(first|refine blk_drewN ?_ _|refine blk_drew ?_|refine blk_alloc ?_ _));exact BK154.1⟩,⟨by repeat(first|(with_reducible first|exact HB.1|apply below_alloc|apply pw_below_drewN|apply below_drew1|refine below_set ?_ GE154.1)|exact HB.1)⟩⟩
          case round=>
            clear H';try clear c1
            try clear p2
            try clear c4
            try clear c10
            try clear c10b0
            try clear c10b1
            try clear c14
            try clear hcz12_0
            try clear hcz12_1
            try clear hcz13_0
            try clear hcz13_1
            try clear hcz16_0
            try clear hcz16_1
            try clear hcz7_0
            try clear hcz7_1
            try clear hfz12_0
            try clear hfz12_1
            try clear hfz13_0
            try clear hfz13_1
            try clear hfz16_0
            try clear hfz16_1
            try clear hfz7_0
            try clear hfz7_1
            try clear p2
            obtain⟨x7_2,x8_2,rfl,HA,HK2,HO_6,HO_7,BK154,HB⟩:=hrel;cases gk with
            |zero=>exact absurd HA.1 (by simp [spec_PlacesWith.l0])
            |succ k2=>
              have H:=HA.1;clear HA;simp only [spec_PlacesWith.l0] at H
              by_cases c20:x8_2<(t158.length:Int)
              · rw [if_pos c20] at H
                have c20b0:decide (x8_2<(t158.length:Int))=true:=decide_eq_true c20;clear c20
                by_cases c21:0≤x8_2
                · rw [if_pos c21] at H
                  have c21b0:decide (0≤x8_2)=true:=decide_eq_true c21;clear c21;replace H:=qOb H;obtain⟨t165,A220,H⟩:=H;replace H:(if t165=0 then (if x7_2.length<17592186044416 then (spec_PlacesWith.l0 k2 a1 t158 (x7_2 ++ [rd t158 x8_2]) (wrap64 (x8_2+1)) a0_0 l0_1) else (none)) else (spec_PlacesWith.l0 k2 a1 t158 x7_2 (wrap64 (x8_2+1)) a0_0 l0_1))=some (r1,r2):=H;have A22:=qAm A220;clear A220
                  by_cases c23:t165=0
                  · rw [if_pos c23] at H
                    have c23b0:(t165==0)=true:=beq_iff_eq.mpr c23;have c23b1:(t165 !=0)=false:=bne_eq_false_iff_eq.mpr c23;clear c23
                    by_cases c24:x7_2.length<17592186044416
                    · rw [if_pos c24] at H
                      have LMc24:=qAm c24;clear c24;obtain⟨y167,hy167⟩:∃y_:List Int,y_=(x7_2 ++ [rd t158 x8_2]):=⟨_,rfl⟩
                      replace H:(spec_PlacesWith.l0 k2 a1 t158 y167 (wrap64 (x8_2+1)) a0_0 l0_1)=some (r1,r2):=by first|(rw [hy167];with_reducible exact H)|(have H2_:=(Option.bind_some _ _).symm.trans H;rw [hy167];with_reducible exact H2_)|(have H2_:=(Option.bind_some _ _).symm.trans H;with_reducible exact H2_)|with_reducible exact H|(rw [hy167];exact H)|exact H
                      have Ny167:=qAm hy167;clear hy167;have H':=qAm H;clear H;obtain⟨Ao25,co25,eo25⟩:=Kd.R_slice HO_6.1;subst eo25;have hcz26_0:wr.cell? ⟨gb154,0,none⟩=some (.int .i64 a0_0):=(blk_cell BK154.1 0).trans rfl;have hcz26_1:wr.cell? ⟨gb154,1,none⟩=some (.slice A0_1 l0_1.length c0_1):=(blk_cell BK154.1 1).trans rfl;have hfz26_0:=blk_frozen BK154.1 0;have hfz26_1:=blk_frozen BK154.1 1;have p164:0≤(x8_2:Int):=of_decide_eq_true qB40;have q164:x8_2<(t158.length:Int):=of_decide_eq_true qB40;obtain⟨ad164,e164,hx164_0⟩:=Kd.at_int (Kd.R_reads' HO_6.1).2.2 x8_2 p164 q164;cases e164
                      replace p164:=eq_true p164;replace q164:=eq_true q164;go_wp2_with (first|(go_at_call 58;(with_reducible refine(spec_l07Value.calls k2 _ _ l0_1 (rd t158 x8_2) a1 t165 _ ?side1 ?side2 A22.1).mono ?_);(case side1=>repeat(first|exact(Kd.C_below HR0_1.1 HB.1)|(with_reducible refine Kd.C_alloc ?_ _)|(with_reducible refine Kd.C_drewN ?_ _)|(with_reducible refine Kd.C_drew ?_)));(case side2=>exact HC0_1.1);rintro e w' ⟨rfl,⟨nd,rfl⟩⟩;(try first|exact⟨rfl,_,World.drewN_drewN _ _ _⟩|exact⟨rfl,_,Eq.trans (World.drewN_drewN _ _ _) (congrArg (World.drewN _) (Nat.add_assoc _ _ _))⟩);have p166:0≤(x8_2:Int):=of_decide_eq_true qB40;have q166:x8_2<(t158.length:Int):=of_decide_eq_true qB40;obtain⟨ad166,e166,hx166_0⟩:=Kd.at_int (Kd.R_reads' HO_6.1).2.2 x8_2 p166 q166;obtain rfl:ad164=ad166:=(by injection e166);replace p166:=eq_true p166;replace q166:=eq_true q166)|((with_reducible refine gate_builtin (b:=.append) (xs:=#[.tmp 44,.tmp 49]) rfl ?_);at_builtin;refine Kd.R_append (Kd.int .i64) (w0:=w) w.heap.size rfl (.tmp 44) (.tmp 49) 22 2 (.int .i64 0) 8 rfl Try.underlying22 info2 rfl (by decide) (by omega) u7 x7_2 (rd t158 x8_2) [.int .i64 (rd t158 x8_2)] (fun k_=>some k_≠(.slice (some ad164) t158.length co25:Value).ownBlock) (fun _=>False) rfl rfl ?aP (fun _ hk=>hk.elim) ?aF ?aO ?aB ?aS ?aL ?_;(case aP=>exact rfl);(case aB=>exact qB8);(case aF=>exact(fun k_ hk=>Kd.fresh' (Kd.R_lt qB37) k_ hk));(case aO=>exact qB38);(case aS=>exact(below_size qB8));(case aL=>have:=LMc24.1;omega);intro v168 w27 ho hb hg hat;rw [← Ny167.1] at ho;have n0_:=qAm (Kd.R_after (ok:=(fun _=>True)) qB13 hg hat);have n1_:=qAm (blk_grown (g:=gb154) (o:=.cells #[.int .i64 a0_0,.slice A0_1 l0_1.length c0_1] 28 (0,0)) qB18 hg (Kd.R_ne HO_7.1 BK154.1 (by decide)));have n2_:=qAm (hb);have n3_:=qAm (ho);clear HO_6;clear BK154;clear HB;clear HO_7;have HO_6:=n0_;have BK154:=n1_;have HB:=n2_;have HO169:=n3_;clear n0_ n1_ n2_ n3_;clear ho hb hg hat));repeat(go_quiet (first|(go_at_call 58;(with_reducible refine(spec_l07Value.calls k2 _ _ l0_1 (rd t158 x8_2) a1 t165 _ ?side1 ?side2 A22.1).mono ?_);(case side1=>repeat(first|exact(Kd.C_below HR0_1.1 HB.1)|(with_reducible refine Kd.C_alloc ?_ _)|(with_reducible refine Kd.C_drewN ?_ _)|(with_reducible refine Kd.C_drew ?_)));(case side2=>exact HC0_1.1);rintro e w' ⟨rfl,⟨nd,rfl⟩⟩;(try first|exact⟨rfl,_,World.drewN_drewN _ _ _⟩|exact⟨rfl,_,Eq.trans (World.drewN_drewN _ _ _) (congrArg (World.drewN _) (Nat.add_assoc _ _ _))⟩);have p166:0≤(x8_2:Int):=of_decide_eq_true qB40;have q166:x8_2<(t158.length:Int):=of_decide_eq_true qB40;obtain⟨ad166,e166,hx166_0⟩:=Kd.at_int (Kd.R_reads' HO_6.1).2.2 x8_2 p166 q166;obtain rfl:ad164=ad166:=(by injection e166);replace p166:=eq_true p166;replace q166:=eq_true q166)|((with_reducible refine gate_builtin (b:=.append) (xs:=#[.tmp 44,.tmp 49]) rfl ?_);at_builtin;refine Kd.R_append (Kd.int .i64) (w0:=w) w.heap.size rfl (.tmp 44) (.tmp 49) 22 2 (.int .i64 0) 8 rfl Try.underlying22 info2 rfl (by decide) (by omega) u7 x7_2 (rd t158 x8_2) [.int .i64 (rd t158 x8_2)] (fun k_=>some k_≠(.slice (some ad164) t158.length co25:Value).ownBlock) (fun _=>False) rfl rfl ?aP (fun _ hk=>hk.elim) ?aF ?aO ?aB ?aS ?aL ?_;(case aP=>exact rfl);(case aB=>exact qB8);(case aF=>exact(fun k_ hk=>Kd.fresh' (Kd.R_lt qB37) k_ hk));(case aO=>exact qB38);(case aS=>exact(below_size qB8));(case aL=>have:=LMc24.1;omega);intro v168 w27 ho hb hg hat;rw [← Ny167.1] at ho;have n0_:=qAm (Kd.R_after (ok:=(fun _=>True)) qB13 hg hat);have n1_:=qAm (blk_grown (g:=gb154) (o:=.cells #[.int .i64 a0_0,.slice A0_1 l0_1.length c0_1] 28 (0,0)) qB18 hg (Kd.R_ne HO_7.1 BK154.1 (by decide)));have n2_:=qAm (hb);have n3_:=qAm (ho);clear HO_6;clear BK154;clear HB;clear HO_7;have HO_6:=n0_;have BK154:=n1_;have HB:=n2_;have HO169:=n3_;clear n0_ n1_ n2_ n3_;clear ho hb hg hat));try go_wp2_with (first|(go_at_call 58;(with_reducible refine(spec_l07Value.calls k2 _ _ l0_1 (rd t158 x8_2) a1 t165 _ ?side1 ?side2 A22.1).mono ?_);(case side1=>repeat(first|exact(Kd.C_below HR0_1.1 HB.1)|(with_reducible refine Kd.C_alloc ?_ _)|(with_reducible refine Kd.C_drewN ?_ _)|(with_reducible refine Kd.C_drew ?_)));(case side2=>exact HC0_1.1);rintro e w' ⟨rfl,⟨nd,rfl⟩⟩;(try first|exact⟨rfl,_,World.drewN_drewN _ _ _⟩|exact⟨rfl,_,Eq.trans (World.drewN_drewN _ _ _) (congrArg (World.drewN _) (Nat.add_assoc _ _ _))⟩);have p166:0≤(x8_2:Int):=of_decide_eq_true qB40;have q166:x8_2<(t158.length:Int):=of_decide_eq_true qB40;obtain⟨ad166,e166,hx166_0⟩:=Kd.at_int (Kd.R_reads' HO_6.1).2.2 x8_2 p166 q166;obtain rfl:ad164=ad166:=(by injection e166);replace p166:=eq_true p166;replace q166:=eq_true q166)|((with_reducible refine gate_builtin (b:=.append) (xs:=#[.tmp 44,.tmp 49]) rfl ?_);at_builtin;refine Kd.R_append (Kd.int .i64) (w0:=w) w.heap.size rfl (.tmp 44) (.tmp 49) 22 2 (.int .i64 0) 8 rfl Try.underlying22 info2 rfl (by decide) (by omega) u7 x7_2 (rd t158 x8_2) [.int .i64 (rd t158 x8_2)] (fun k_=>some k_≠(.slice (some ad164) t158.length co25:Value).ownBlock) (fun _=>False) rfl rfl ?aP (fun _ hk=>hk.elim) ?aF ?aO ?aB ?aS ?aL ?_;(case aP=>exact rfl);(case aB=>exact qB8);(case aF=>exact(fun k_ hk=>Kd.fresh' (Kd.R_lt qB37) k_ hk));(case aO=>exact qB38);(case aS=>exact(below_size qB8));(case aL=>have:=LMc24.1;omega);intro v168 w27 ho hb hg hat;rw [← Ny167.1] at ho;have n0_:=qAm (Kd.R_after (ok:=(fun _=>True)) qB13 hg hat);have n1_:=qAm (blk_grown (g:=gb154) (o:=.cells #[.int .i64 a0_0,.slice A0_1 l0_1.length c0_1] 28 (0,0)) qB18 hg (Kd.R_ne HO_7.1 BK154.1 (by decide)));have n2_:=qAm (hb);have n3_:=qAm (ho);clear HO_6;clear BK154;clear HB;clear HO_7;have HO_6:=n0_;have BK154:=n1_;have HB:=n2_;have HO169:=n3_;clear n0_ n1_ n2_ n3_;clear ho hb hg hat)))
                      (first|go_roundg k2|((try simp only [add_plain] at *);go_roundg k2))
                      case measure=>have:=HJ4.1;have:=HK2.1;omega
                      case rel=>exact⟨(y167),(wrap64 (x8_2+1)),qB41,H',⟨by have:=HJ4.1;have:=HK2.1;omega⟩,⟨by (with_reducible repeat(first|apply Kd.R_alloc|apply Kd.R_drewN|apply Kd.R_drew));exact Kd.R_mono HO_6.1 (fun _ hk=>hk.2)⟩,⟨by (with_reducible repeat(first|apply Kd.R_alloc|apply Kd.R_drewN|apply Kd.R_drew));exact HO169.1⟩,⟨by (with_reducible repeat(first|refine blk_drewN ?_ _|refine blk_drew ?_|refine blk_alloc ?_ _));exact BK154.1⟩,⟨by repeat(first|(with_reducible first|exact HB.1|apply below_alloc|apply pw_below_drewN|apply below_drew1|refine below_set ?_ GE154.1)|exact HB.1)⟩⟩
                    · rw [if_neg c24] at H
                      exact absurd H (by simp)
                  · rw [if_neg c23] at H
                    have c23b0:(t165==0)=false:=beq_eq_false_iff_ne.mpr c23;have c23b1:(t165 !=0)=true:=bne_iff_ne.mpr c23;have H':=qAm H;clear H;obtain⟨Ao28,co28,eo28⟩:=Kd.R_slice HO_6.1;subst eo28;have hcz29_0:wr.cell? ⟨gb154,0,none⟩=some (.int .i64 a0_0):=(blk_cell BK154.1 0).trans rfl;have hcz29_1:wr.cell? ⟨gb154,1,none⟩=some (.slice A0_1 l0_1.length c0_1):=(blk_cell BK154.1 1).trans rfl;have hfz29_0:=blk_frozen BK154.1 0;have hfz29_1:=blk_frozen BK154.1 1;have p164:0≤(x8_2:Int):=of_decide_eq_true qB40;have q164:x8_2<(t158.length:Int):=of_decide_eq_true qB40;obtain⟨ad164,e164,hx164_0⟩:=Kd.at_int (Kd.R_reads' HO_6.1).2.2 x8_2 p164 q164;cases e164
                    replace p164:=eq_true p164;replace q164:=eq_true q164;go_wp2_with (first|(go_at_call 58;(with_reducible refine(spec_l07Value.calls k2 _ _ l0_1 (rd t158 x8_2) a1 t165 _ ?side1 ?side2 A22.1).mono ?_);(case side1=>repeat(first|exact(Kd.C_below HR0_1.1 HB.1)|(with_reducible refine Kd.C_alloc ?_ _)|(with_reducible refine Kd.C_drewN ?_ _)|(with_reducible refine Kd.C_drew ?_)));(case side2=>exact HC0_1.1);rintro e w' ⟨rfl,⟨nd,rfl⟩⟩;(try first|exact⟨rfl,_,World.drewN_drewN _ _ _⟩|exact⟨rfl,_,Eq.trans (World.drewN_drewN _ _ _) (congrArg (World.drewN _) (Nat.add_assoc _ _ _))⟩)));repeat(go_quiet (first|(go_at_call 58;(with_reducible refine(spec_l07Value.calls k2 _ _ l0_1 (rd t158 x8_2) a1 t165 _ ?side1 ?side2 A22.1).mono ?_);(case side1=>repeat(first|exact(Kd.C_below HR0_1.1 HB.1)|(with_reducible refine Kd.C_alloc ?_ _)|(with_reducible refine Kd.C_drewN ?_ _)|(with_reducible refine Kd.C_drew ?_)));(case side2=>exact HC0_1.1);rintro e w' ⟨rfl,⟨nd,rfl⟩⟩;(try first|exact⟨rfl,_,World.drewN_drewN _ _ _⟩|exact⟨rfl,_,Eq.trans (World.drewN_drewN _ _ _) (congrArg (World.drewN _) (Nat.add_assoc _ _ _))⟩)));try go_wp2_with (first|(go_at_call 58;(with_reducible refine(spec_l07Value.calls k2 _ _ l0_1 (rd t158 x8_2) a1 t165 _ ?side1 ?side2 A22.1).mono ?_);(case side1=>repeat(first|exact(Kd.C_below HR0_1.1 HB.1)|(with_reducible refine Kd.C_alloc ?_ _)|(with_reducible refine Kd.C_drewN ?_ _)|(with_reducible refine Kd.C_drew ?_)));(case side2=>exact HC0_1.1);rintro e w' ⟨rfl,⟨nd,rfl⟩⟩;(try first|exact⟨rfl,_,World.drewN_drewN _ _ _⟩|exact⟨rfl,_,Eq.trans (World.drewN_drewN _ _ _) (congrArg (World.drewN _) (Nat.add_assoc _ _ _))⟩))))
                    (first|go_roundg k2|((try simp only [add_plain] at *);go_roundg k2))
                    case measure=>have:=HJ4.1;have:=HK2.1;omega
                    case rel=>exact⟨(x7_2),(wrap64 (x8_2+1)),qB41,H',⟨by have:=HJ4.1;have:=HK2.1;omega⟩,⟨by (with_reducible repeat(first|apply Kd.R_alloc|apply Kd.R_drewN|apply Kd.R_drew));exact HO_6.1⟩,⟨by (with_reducible repeat(first|apply Kd.R_alloc|apply Kd.R_drewN|apply Kd.R_drew));exact HO_7.1⟩,⟨by (with_reducible repeat(first|refine blk_drewN ?_ _|refine blk_drew ?_|refine blk_alloc ?_ _));exact BK154.1⟩,⟨by repeat(first|(with_reducible first|exact HB.1|apply below_alloc|apply pw_below_drewN|apply below_drew1|refine below_set ?_ GE154.1)|exact HB.1)⟩⟩
                · rw [if_neg c21] at H
                  exact absurd H (by simp)
              · rw [if_neg c20] at H
                have c20b0:decide (x8_2<(t158.length:Int))=false:=decide_eq_false c20;clear c20;simp only [Option.some.injEq,Prod.mk.injEq] at H;obtain⟨rfl,rfl⟩:=H;obtain⟨Ao30,co30,eo30⟩:=Kd.R_slice HO_6.1;subst eo30;go_wp2;repeat(go_quiet (fail);try go_wp2)
                go_ret2;exact⟨_,by first|rfl|(simp [errW_none,errW_some] <;> rfl)|(simp [*,errW_none,errW_some] <;> rfl),by (with_reducible repeat(first|apply Kd.R_alloc|apply Kd.R_drewN|apply Kd.R_drew));exact Kd.R_mono HO_7.1 (fun _ hk=>trivial),by repeat(first|(with_reducible first|exact HB.1|apply below_alloc|apply pw_below_drewN|apply below_drew1|refine below_set ?_ GE154.1)|exact HB.1)⟩
  · replace c4:=Bool.eq_false_iff.mpr c4
    subst c4;have H1:(some (([]:List Int),1))=some (r1,r2):=by rw [if_neg (show ¬(false=true) by decide)] at H;exact H
    clear H;have H:=H1;clear H1;simp only [Option.some.injEq,Prod.mk.injEq] at H;obtain⟨rfl,rfl⟩:=H;go_enter Try.func10,Try.ntmps10;go_wp2_with (first|((with_reducible refine gate_dst (N:=2) rfl ?_);refine box_event ?hg (N:=2) ?hd (cs:=#[.int .i64 a0_0,.slice A0_1 l0_1.length c0_1]) (t:=28) ?hr ?_;(case hd=>rfl);(case hg=>rfl);(case hr=>first|(go_simp;done)|(go_simp;rfl));intro gb154 hg w31 hbox hb;have n0_:=qAm (below_step qB15 hb);have n1_:=qAm (hbox);have n2_:=qAm ((by rw [hg];exact(below_size qB15):w.heap.size≤gb154));have n3_:=qAm ((by rw [hg];exact(below_size qB15):w.heap.size≤gb154));clear HB;have HB:=n0_;have BK154:=n1_;have GW154:=n2_;have GE154:=n3_;clear n0_ n1_ n2_ n3_;clear hb hbox hg;have hcz32_0:w31.cell? ⟨gb154,0,none⟩=some (.int .i64 a0_0):=(blk_cell BK154.1 0).trans rfl;have hcz32_1:w31.cell? ⟨gb154,1,none⟩=some (.slice A0_1 l0_1.length c0_1):=(blk_cell BK154.1 1).trans rfl;have hfz32_0:=blk_frozen BK154.1 0;have hfz32_1:=blk_frozen BK154.1 1)|(go_at_call 54;(with_reducible refine(spec_l01Is.calls k a0_0 _ _ l0_1 false _ ?side1 ?side2 A3.1).mono ?_);(case side1=>repeat(first|exact(Kd.C_below HR0_1.1 HB.1)|(with_reducible refine Kd.C_alloc ?_ _)|(with_reducible refine Kd.C_drewN ?_ _)|(with_reducible refine Kd.C_drew ?_)));(case side2=>exact HC0_1.1);rintro e w33 ⟨rfl,hb⟩;have n0_:=qAm (blk_below (g:=gb154) (o:=.cells #[.int .i64 a0_0,.slice A0_1 l0_1.length c0_1] 28 (0,0)) qB18 hb);have n1_:=qAm (below_step qB8 hb);clear BK154;clear HB;have BK154:=n0_;have HB:=n1_;clear n0_ n1_;(try clear hb);(try clear hb2);(try clear hk);(try clear hi)));repeat(go_quiet (first|((with_reducible refine gate_dst (N:=2) rfl ?_);refine box_event ?hg (N:=2) ?hd (cs:=#[.int .i64 a0_0,.slice A0_1 l0_1.length c0_1]) (t:=28) ?hr ?_;(case hd=>rfl);(case hg=>rfl);(case hr=>first|(go_simp;done)|(go_simp;rfl));intro gb154 hg w31 hbox hb;have n0_:=qAm (below_step qB15 hb);have n1_:=qAm (hbox);have n2_:=qAm ((by rw [hg];exact(below_size qB15):w.heap.size≤gb154));have n3_:=qAm ((by rw [hg];exact(below_size qB15):w.heap.size≤gb154));clear HB;have HB:=n0_;have BK154:=n1_;have GW154:=n2_;have GE154:=n3_;clear n0_ n1_ n2_ n3_;clear hb hbox hg;have hcz32_0:w31.cell? ⟨gb154,0,none⟩=some (.int .i64 a0_0):=(blk_cell BK154.1 0).trans rfl;have hcz32_1:w31.cell? ⟨gb154,1,none⟩=some (.slice A0_1 l0_1.length c0_1):=(blk_cell BK154.1 1).trans rfl;have hfz32_0:=blk_frozen BK154.1 0;have hfz32_1:=blk_frozen BK154.1 1)|(go_at_call 54;(with_reducible refine(spec_l01Is.calls k a0_0 _ _ l0_1 false _ ?side1 ?side2 A3.1).mono ?_);(case side1=>repeat(first|exact(Kd.C_below HR0_1.1 HB.1)|(with_reducible refine Kd.C_alloc ?_ _)|(with_reducible refine Kd.C_drewN ?_ _)|(with_reducible refine Kd.C_drew ?_)));(case side2=>exact HC0_1.1);rintro e w33 ⟨rfl,hb⟩;have n0_:=qAm (blk_below (g:=gb154) (o:=.cells #[.int .i64 a0_0,.slice A0_1 l0_1.length c0_1] 28 (0,0)) qB18 hb);have n1_:=qAm (below_step qB8 hb);clear BK154;clear HB;have BK154:=n0_;have HB:=n1_;clear n0_ n1_;(try clear hb);(try clear hb2);(try clear hk);(try clear hi)));try go_wp2_with (first|((with_reducible refine gate_dst (N:=2) rfl ?_);refine box_event ?hg (N:=2) ?hd (cs:=#[.int .i64 a0_0,.slice A0_1 l0_1.length c0_1]) (t:=28) ?hr ?_;(case hd=>rfl);(case hg=>rfl);(case hr=>first|(go_simp;done)|(go_simp;rfl));intro gb154 hg w31 hbox hb;have n0_:=qAm (below_step qB15 hb);have n1_:=qAm (hbox);have n2_:=qAm ((by rw [hg];exact(below_size qB15):w.heap.size≤gb154));have n3_:=qAm ((by rw [hg];exact(below_size qB15):w.heap.size≤gb154));clear HB;have HB:=n0_;have BK154:=n1_;have GW154:=n2_;have GE154:=n3_;clear n0_ n1_ n2_ n3_;clear hb hbox hg;have hcz32_0:w31.cell? ⟨gb154,0,none⟩=some (.int .i64 a0_0):=(blk_cell BK154.1 0).trans rfl;have hcz32_1:w31.cell? ⟨gb154,1,none⟩=some (.slice A0_1 l0_1.length c0_1):=(blk_cell BK154.1 1).trans rfl;have hfz32_0:=blk_frozen BK154.1 0;have hfz32_1:=blk_frozen BK154.1 1)|(go_at_call 54;(with_reducible refine(spec_l01Is.calls k a0_0 _ _ l0_1 false _ ?side1 ?side2 A3.1).mono ?_);(case side1=>repeat(first|exact(Kd.C_below HR0_1.1 HB.1)|(with_reducible refine Kd.C_alloc ?_ _)|(with_reducible refine Kd.C_drewN ?_ _)|(with_reducible refine Kd.C_drew ?_)));(case side2=>exact HC0_1.1);rintro e w33 ⟨rfl,hb⟩;have n0_:=qAm (blk_below (g:=gb154) (o:=.cells #[.int .i64 a0_0,.slice A0_1 l0_1.length c0_1] 28 (0,0)) qB18 hb);have n1_:=qAm (below_step qB8 hb);clear BK154;clear HB;have BK154:=n0_;have HB:=n1_;clear n0_ n1_;(try clear hb);(try clear hb2);(try clear hk);(try clear hi))))
    go_ret2;exact⟨_,by first|rfl|(simp [errW_none,errW_some] <;> rfl)|(simp [*,errW_none,errW_some] <;> rfl),by first|exact Kd.R_nil _ _ _ _ _|exact Kd.N_nil _ _ _ _ _|exact Kd.V_nil _ _ _ _ _|exact Kd.Q_nil _ _ _ _ _|exact Kd.S_nil _ _ _ _ _,by repeat(first|(with_reducible first|exact HB.1|apply below_alloc|apply pw_below_drewN|apply below_drew1|refine below_set ?_ GE154.1)|exact HB.1)⟩

/-! ### laws_toInt64S: function 30 -/
def laws_toInt64S.l0:Nat→List Int→List Int→Int→Option (List Int)
  |0,_,_,_=>none
  |k+1,x0,x3,x4=>if x4<(x0.length:Int) then (if 0≤x4 then (if x4<(x3.length:Int) then (laws_toInt64S.l0 k x0 (x3.set (x4:Int).toNat (rd x0 x4)) (wrap64 (x4+1))) else (none)) else (none)) else (some x3)
def laws_toInt64S.f (k:Nat) (l0:List Int):Option (List Int):=if 0≤(l0.length:Int) then (if ((l0.length:Int):Int).toNat≤35184372088832 then (laws_toInt64S.l0 k l0 (List.replicate ((l0.length:Int):Int).toNat 0) 0) else (none)) else (none)
theorem laws_toInt64S.mono_l:∀k,(∀y0 y1 y2,LeO (laws_toInt64S.l0 k y0 y1 y2) (laws_toInt64S.l0 (k+1) y0 y1 y2))
  |0=>fun _ _ _ r h=>by simp [laws_toInt64S.l0] at h
  |k+1=>by
    have ih0:=laws_toInt64S.mono_l k
    · intro y0 y1 y2
      unfold laws_toInt64S.l0;repeat' first
      |(with_reducible exact ih0 _ _ _)
      |(with_reducible exact LeO.refl _)
      |(with_reducible exact LeO.none _)
      |(with_reducible refine LeO.ite ?_ ?_)
      |(with_reducible refine LeO.bind ?_ (fun _=>?_))
      |exact ih0 _ _ _
      |exact LeO.none _
      |refine LeO.ite ?_ ?_
      |refine LeO.bind ?_ (fun _=>?_)
theorem laws_toInt64S.mono:∀a0 k,LeO (laws_toInt64S.f k a0) (laws_toInt64S.f (k+1) a0):=by
  intro a0 k;have ih0:=laws_toInt64S.mono_l k;unfold laws_toInt64S.f;repeat' first
      |(with_reducible exact ih0 _ _ _)
      |(with_reducible exact LeO.refl _)
      |(with_reducible exact LeO.none _)
      |(with_reducible refine LeO.ite ?_ ?_)
      |(with_reducible refine LeO.bind ?_ (fun _=>?_))
      |exact ih0 _ _ _
      |exact LeO.none _
      |refine LeO.ite ?_ ?_
      |refine LeO.bind ?_ (fun _=>?_)
set_option maxHeartbeats 8000000 in
set_option maxRecDepth 100000 in
theorem laws_toInt64S.calls (k:Nat) (A0:Option Addr) (c0:Nat) (l0:List Int) (r:List Int) (w:World) (hr0:Kd.C (Kd.int .i64) w A0 l0.length l0) (hc0:l0.length≤c0) (h:laws_toInt64S.f k l0=some r):
    Calls Try.prog 30 #[.slice A0 l0.length c0] w fun e w'=>∃v0_:Value,e=.returned (v0_)∧Kd.R (Kd.int .i64) 2 w' w.heap.size (fun _=>True) v0_ r∧Below w.heap.size w w':=by
  have HR0:=qAm hr0;have HC0:=qAm hc0;clear hr0 hc0;have HB:=qAm (Below.refl w.heap.size w);have H:(if 0≤(l0.length:Int) then (if ((l0.length:Int):Int).toNat≤35184372088832 then (laws_toInt64S.l0 k l0 (List.replicate ((l0.length:Int):Int).toNat 0) 0) else (none)) else (none))=some r:=h;clear h
  by_cases c2:0≤(l0.length:Int)
  · rw [if_pos c2] at H
    have c2b0:=eq_true c2;have c2b1:decide (0≤(l0.length:Int))=true:=decide_eq_true c2;clear c2
    by_cases c3:((l0.length:Int):Int).toNat≤35184372088832
    · rw [if_pos c3] at H
      have c3b0:=eq_true c3;have c3b1:decide (((l0.length:Int):Int).toNat≤35184372088832)=true:=decide_eq_true c3;clear c3;obtain⟨y170,hy170⟩:∃y_:List Int,y_=(List.replicate ((l0.length:Int):Int).toNat 0):=⟨_,rfl⟩
      replace H:(laws_toInt64S.l0 k l0 y170 0)=some r:=by first|(rw [hy170];with_reducible exact H)|(have H2_:=(Option.bind_some _ _).symm.trans H;rw [hy170];with_reducible exact H2_)|(have H2_:=(Option.bind_some _ _).symm.trans H;with_reducible exact H2_)|with_reducible exact H|(rw [hy170];exact H)|exact H
      have Ny170:=qAm hy170;clear hy170;have H':=qAm H;clear H;go_enter Try.func30,Try.ntmps30;go_wp2_with (first|((with_reducible refine gate_dst (N:=7) rfl ?_);refine Kd.R_make (Kd.int .i64) _ 2 rfl (N:=7) rfl 22 _ _ rfl (l0.length:Int) rfl rfl Try.underlying22 (.int .i64 0) 8 info2 rfl (by decide) (by omega) 0 (ok:=fun _=>True) (okp:=fun _=>True) rfl (fun _ hk=>hk) trivial (of_decide_eq_true qB40) (Nat.le_trans (Nat.mul_le_mul_right _ (of_decide_eq_true qB40:(l0.length:Int).toNat≤35184372088832)) (by omega)) (Below.refl _ _) (Nat.le_refl _) ?_;intro v171 w4 ho5 hb hg_ hnew_;clear hg_ hnew_;(first|rw [← Ny170.1] at ho5|(simp only [Int.reduceToNat] at ho5;rw [← Ny170.1] at ho5));have n0_:=qAm (Kd.R_lower ho5 (below_size qB15));have n1_:=qAm (below_step qB15 hb);clear HB;have HO172:=n0_;have HB:=n1_;clear n0_ n1_;clear hb ho5));try simp only [Act.put,qSa,qSc,qSb]
      go_loopg [4] k (fun kq v4 w'=>∃(x3_1:List Int) (x4_1:Int),v4=.int .i64 x4_1∧Aside0 (laws_toInt64S.l0 kq l0 x3_1 x4_1=some r)∧Aside0 (kq≤k)∧Aside0 (Kd.R (Kd.int .i64) 2 w' w.heap.size (fun _=>True) v171 x3_1)∧Aside0 (Below w.heap.size w w'))
      case atStart=>exact⟨(y170),(0),qB41,H',⟨Nat.le_refl _⟩,⟨by (with_reducible repeat(first|apply Kd.R_alloc|apply Kd.R_drewN|apply Kd.R_drew));exact HO172.1⟩,⟨by repeat(first|(with_reducible first|exact HB.1|apply below_alloc|apply pw_below_drewN|apply below_drew1)|exact HB.1)⟩⟩
      case round=>
        clear H';try clear c2
        try clear c2b0
        try clear c2b1
        try clear p2
        try clear c3
        try clear c3b0
        try clear c3b1
        obtain⟨x3_1,x4_1,rfl,HA,HK1,HO_3,HB⟩:=hrel;cases gk with
        |zero=>exact absurd HA.1 (by simp [laws_toInt64S.l0])
        |succ k1=>
          have H:=HA.1;clear HA;simp only [laws_toInt64S.l0] at H
          by_cases c6:x4_1<(l0.length:Int)
          · rw [if_pos c6] at H
            have c6b0:decide (x4_1<(l0.length:Int))=true:=decide_eq_true c6;clear c6
            by_cases c7:0≤x4_1
            · rw [if_pos c7] at H
              have c7b0:decide (0≤x4_1)=true:=decide_eq_true c7;clear c7
              by_cases c8:x4_1<(x3_1.length:Int)
              · rw [if_pos c8] at H
                have c8b0:decide (x4_1<(x3_1.length:Int))=true:=decide_eq_true c8;clear c8;obtain⟨y174,hy174⟩:∃y_:List Int,y_=(x3_1.set (x4_1:Int).toNat (rd l0 x4_1)):=⟨_,rfl⟩
                replace H:(laws_toInt64S.l0 k1 l0 y174 (wrap64 (x4_1+1)))=some r:=by first|(rw [hy174];with_reducible exact H)|(have H2_:=(Option.bind_some _ _).symm.trans H;rw [hy174];with_reducible exact H2_)|(have H2_:=(Option.bind_some _ _).symm.trans H;with_reducible exact H2_)|with_reducible exact H|(rw [hy174];exact H)|exact H
                have Ny174:=qAm hy174;clear hy174;have H':=qAm H;clear H;have p173:0≤(x4_1:Int):=of_decide_eq_true qB40;have q173:x4_1<(l0.length:Int):=of_decide_eq_true qB40;obtain⟨ad173,e173,hx173_0⟩:=Kd.at_int HR0.1 x4_1 p173 q173;cases e173
                replace hx173_0:=(HB.1.cell (World.block_lt_of_cell? w _ hx173_0)).trans hx173_0;replace p173:=eq_true p173;replace q173:=eq_true q173;have p9:0≤(x4_1:Int):=of_decide_eq_true qB40;have q9:(x4_1:Int)<((x3_1.length:Int):Int):=of_decide_eq_true qB40;obtain⟨go9,co9,eo9,gb9,gl9,cl9,HG9⟩:=Kd.R_form HO_3.1 (by omega)
                (first|cases eo9|(injection eo9 with ea_ en_ ec_;(first|subst ea_|(injection ea_ with ea_;subst ea_));subst ec_;clear en_))
                have GB9:=qAm gb9;have GG9:=qAm HG9;clear gb9 gl9 HG9;obtain⟨hx9_0,hf9_0⟩:=Kd.R_celln 0 HO_3.1 (x4_1:Int) p9 q9;replace p9:=eq_true p9;replace q9:=eq_true q9;have HP10:=Kd.R_putg HO_3.1 (x4_1:Int) (rd l0 x4_1);go_wp2_with (first|((with_reducible refine gate_store (t:=2) (p:=20) rfl ?_);refine store_event (t:=2) (p:=20) (v:=?vo_w11) (w1:=(wr.setCell ⟨go9,(x4_1:Int).toNat,none⟩ (.int .i64 (rd l0 x4_1)))) ?hg ?ho ?hn ?hr ?_;(case ho=>rfl);(case hg=>rfl);(case hn=>rfl);(case hr=>first|(go_simp;done)|(go_simp;rfl));intro w11 hw;have hg:wr.grownBy w11 (some go9):=(by rw [hw];exact HP10.2);have hp_:Kd.R (Kd.int .i64) 2 w11 w.heap.size (fun _=>True) (.slice (some ⟨go9,0,none⟩) x3_1.length co9) y174:=(by rw [hw,Ny174.1];exact HP10.1);clear HP10;have n0_:=qAm (hp_);have n1_:=qAm ((by rw [hw];exact below_set (HB.1) GB9.1:Below w.heap.size w w11));clear HO_3;clear HB;have HO_3:=n0_;have HB:=n1_;clear n0_ n1_;clear hg hw hp_))
                (first|go_roundg k1|((try simp only [add_plain] at *);go_roundg k1))
                case measure=>have:=HK1.1;omega
                case rel=>exact⟨(y174),(wrap64 (x4_1+1)),qB41,H',⟨by have:=HK1.1;omega⟩,⟨by (with_reducible repeat(first|apply Kd.R_alloc|apply Kd.R_drewN|apply Kd.R_drew));exact HO_3.1⟩,⟨by repeat(first|(with_reducible first|exact HB.1|apply below_alloc|apply pw_below_drewN|apply below_drew1)|exact HB.1)⟩⟩
              · rw [if_neg c8] at H
                exact absurd H (by simp)
            · rw [if_neg c7] at H
              exact absurd H (by simp)
          · rw [if_neg c6] at H
            have c6b0:decide (x4_1<(l0.length:Int))=false:=decide_eq_false c6;clear c6;obtain rfl:=Option.some.inj H;go_wp2;go_ret;exact⟨_,by first|rfl|(simp [errW_none,errW_some] <;> rfl)|(simp [*,errW_none,errW_some] <;> rfl),by (with_reducible repeat(first|apply Kd.R_alloc|apply Kd.R_drewN|apply Kd.R_drew));exact HO_3.1,by repeat(first|(with_reducible first|exact HB.1|apply below_alloc|apply pw_below_drewN|apply below_drew1)|exact HB.1)⟩
    · rw [if_neg c3] at H
      exact absurd H (by simp)
  · rw [if_neg c2] at H
    exact absurd H (by simp)

/-! ### laws_toCyclo: function 11 -/
def laws_toCyclo.f (k:Nat) (a0_0:Int) (l0_1:List Int):Option (Int×List Int):=(laws_toInt64S.f k l0_1).bind fun t178=>(some (a0_0,t178))
theorem laws_toCyclo.mono:∀a0 a1 k,LeO (laws_toCyclo.f k a0 a1) (laws_toCyclo.f (k+1) a0 a1):=by
  intro a0 a1 k;unfold laws_toCyclo.f;repeat' first
      |(with_reducible exact laws_toInt64S.mono _ _)
      |(with_reducible exact LeO.refl _)
      |(with_reducible exact LeO.none _)
      |(with_reducible refine LeO.ite ?_ ?_)
      |(with_reducible refine LeO.bind ?_ (fun _=>?_))
      |exact laws_toInt64S.mono _ _
      |exact LeO.none _
      |refine LeO.ite ?_ ?_
      |refine LeO.bind ?_ (fun _=>?_)
set_option maxHeartbeats 8000000 in
set_option maxRecDepth 100000 in
theorem laws_toCyclo.calls (k:Nat) (a0_0:Int) (A0_1:Option Addr) (c0_1:Nat) (l0_1:List Int) (r1:Int) (r2:List Int) (w:World) (hr0_1:Kd.C (Kd.int .i64) w A0_1 l0_1.length l0_1) (hc0_1:l0_1.length≤c0_1) (h:laws_toCyclo.f k a0_0 l0_1=some (r1,r2)):
    Calls Try.prog 11 #[.agg #[.int .i64 a0_0,.slice A0_1 l0_1.length c0_1]] w fun e w'=>∃v1_:Value,e=.returned (.agg #[.int .i64 r1,v1_])∧Kd.R (Kd.int .i64) 2 w' w.heap.size (fun _=>True) v1_ r2∧Below w.heap.size w w':=by
  have hu24:=Try.underlying24;have hu28:=Try.underlying28;have HR0_1:=qAm hr0_1;have HC0_1:=qAm hc0_1;clear hr0_1 hc0_1;have HB:=qAm (Below.refl w.heap.size w);have H:((laws_toInt64S.f k l0_1).bind fun t178=>(some (a0_0,t178)))=some (r1,r2):=h;clear h;replace H:=qOb H;obtain⟨t178,A20,H⟩:=H;replace H:(some (a0_0,t178))=some (r1,r2):=H;have A2:=qAm A20;clear A20;simp only [Option.some.injEq,Prod.mk.injEq] at H;obtain⟨rfl,rfl⟩:=H;go_enter Try.func11,Try.ntmps11;go_wp2_with (first|((with_reducible refine gate_dst (N:=1) rfl ?_);refine box_event ?hg (N:=1) ?hd (cs:=#[.int .i64 a0_0,.slice A0_1 l0_1.length c0_1]) (t:=24) ?hr ?_;(case hd=>rfl);(case hg=>rfl);(case hr=>first|(go_simp;done)|(go_simp;rfl));intro gb175 hg w3 hbox hb;have n0_:=qAm (below_step qB15 hb);have n1_:=qAm (hbox);have n2_:=qAm ((by rw [hg];exact(below_size qB15):w.heap.size≤gb175));have n3_:=qAm ((by rw [hg];exact(below_size qB15):w.heap.size≤gb175));clear HB;have HB:=n0_;have BK175:=n1_;have GW175:=n2_;have GE175:=n3_;clear n0_ n1_ n2_ n3_;clear hb hbox hg)|((with_reducible refine gate_dst (N:=2) rfl ?_);refine box_event ?hg (N:=2) ?hd (cs:=#[.int .i64 0,.slice none 0 0]) (t:=28) ?hr ?_;(case hd=>rfl);(case hg=>rfl);(case hr=>first|(go_simp;done)|(go_simp;rfl));intro gb176 hg w4 hbox hb;have n0_:=qAm (blk_below (g:=gb175) (o:=.cells #[.int .i64 a0_0,.slice A0_1 l0_1.length c0_1] 24 (0,0)) qB19 hb);have n1_:=qAm (below_step qB9 hb);have n2_:=qAm (hbox);have n3_:=qAm ((by rw [hg];exact(below_size qB9):w.heap.size≤gb176));have n4_:=qAm ((by rw [hg];exact(below_size qB9):w.heap.size≤gb176));have n5_:=qAm ((by rw [hg];exact Nat.ne_of_lt (blk_lt (g:=gb175) (o:=.cells #[.int .i64 a0_0,.slice A0_1 l0_1.length c0_1] 24 (0,0)) qB19):gb175≠gb176));have n6_:=qAm ((by rw [hg];exact Nat.ne_of_gt (blk_lt (g:=gb175) (o:=.cells #[.int .i64 a0_0,.slice A0_1 l0_1.length c0_1] 24 (0,0)) qB19):gb176≠gb175));clear BK175;clear HB;have BK175:=n0_;have HB:=n1_;have BK176:=n2_;have GW176:=n3_;have GE176:=n4_;have NB175_176:=n5_;have NB176_175:=n6_;clear n0_ n1_ n2_ n3_ n4_ n5_ n6_;clear hb hbox hg)|((with_reducible refine gate_dst (N:=3) rfl ?_);refine box_event ?hg (N:=3) ?hd (cs:=#[.int .i64 0,.slice none 0 0]) (t:=28) ?hr ?_;(case hd=>rfl);(case hg=>rfl);(case hr=>first|(go_simp;done)|(go_simp;rfl));intro gb177 hg w5 hbox hb;have n0_:=qAm (blk_below (g:=gb175) (o:=.cells #[.int .i64 a0_0,.slice A0_1 l0_1.length c0_1] 24 (0,0)) qB19 hb);have n1_:=qAm (blk_below (g:=gb176) (o:=.cells #[.int .i64 0,.slice none 0 0] 28 (0,0)) qB20 hb);have n2_:=qAm (below_step qB5 hb);have n3_:=qAm (hbox);have n4_:=qAm ((by rw [hg];exact(below_size qB5):w.heap.size≤gb177));have n5_:=qAm ((by rw [hg];exact(below_size qB5):w.heap.size≤gb177));have n6_:=qAm ((by rw [hg];exact Nat.ne_of_lt (blk_lt (g:=gb175) (o:=.cells #[.int .i64 a0_0,.slice A0_1 l0_1.length c0_1] 24 (0,0)) qB19):gb175≠gb177));have n7_:=qAm ((by rw [hg];exact Nat.ne_of_gt (blk_lt (g:=gb175) (o:=.cells #[.int .i64 a0_0,.slice A0_1 l0_1.length c0_1] 24 (0,0)) qB19):gb177≠gb175));have n8_:=qAm ((by rw [hg];exact Nat.ne_of_lt (blk_lt (g:=gb176) (o:=.cells #[.int .i64 0,.slice none 0 0] 28 (0,0)) qB20):gb176≠gb177));have n9_:=qAm ((by rw [hg];exact Nat.ne_of_gt (blk_lt (g:=gb176) (o:=.cells #[.int .i64 0,.slice none 0 0] 28 (0,0)) qB20):gb177≠gb176));clear BK175;clear BK176;clear HB;have BK175:=n0_;have BK176:=n1_;have HB:=n2_;have BK177:=n3_;have GW177:=n4_;have GE177:=n5_;have NB175_177:=n6_;have NB177_175:=n7_;have NB176_177:=n8_;have NB177_176:=n9_;clear n0_ n1_ n2_ n3_ n4_ n5_ n6_ n7_ n8_ n9_;clear hb hbox hg;have hnb6:=NB175_176.1;have hnc6:=NB176_175.1;have hnb7:=NB175_177.1;have hnc7:=NB177_175.1;have hcz8_0:w5.cell? ⟨gb175,0,none⟩=some (.int .i64 a0_0):=(blk_cell BK175.1 0).trans rfl;have hcz8_1:w5.cell? ⟨gb175,1,none⟩=some (.slice A0_1 l0_1.length c0_1):=(blk_cell BK175.1 1).trans rfl;have hfz8_0:=blk_frozen BK175.1 0;have hfz8_1:=blk_frozen BK175.1 1;have hnb9:=NB177_176.1;have hnc9:=NB176_177.1;have hcz10_0:w5.cell? ⟨gb177,0,none⟩=some (.int .i64 0):=(blk_cell BK177.1 0).trans rfl;have hcz10_1:w5.cell? ⟨gb177,1,none⟩=some (.slice none 0 0):=(blk_cell BK177.1 1).trans rfl;have hfz10_0:=blk_frozen BK177.1 0;have hfz10_1:=blk_frozen BK177.1 1)|((with_reducible refine gate_callee (f:=30) rfl ?_);refine goesL_ (some 9) rfl rfl Try.func30 (by kernel_rfl) rfl #[.slice A0_1 l0_1.length c0_1] rfl qB14 ?_;(with_reducible refine(laws_toInt64S.calls k _ _ l0_1 t178 _ ?side1 ?side2 A2.1).mono ?_);(case side1=>exact Kd.C_below HR0_1.1 qB4);(case side2=>exact HC0_1.1);rintro e w11 ⟨v179,rfl,ho0,hb⟩;refine⟨_,rfl,?_⟩;have n0_:=qAm (Kd.R_lower ho0 (below_size qB4));have n1_:=qAm (blk_below (g:=gb175) (o:=.cells #[.int .i64 a0_0,.slice A0_1 l0_1.length c0_1] 24 (0,0)) (by (with_reducible repeat(first|refine blk_drewN ?_ _|refine blk_drew ?_|refine blk_alloc ?_ _));refine blk_far ?_ NB175_177.1 _;(with_reducible repeat(first|refine blk_drewN ?_ _|refine blk_drew ?_|refine blk_alloc ?_ _));exact BK175.1) hb);have n2_:=qAm (blk_below (g:=gb176) (o:=.cells #[.int .i64 0,.slice none 0 0] 28 (0,0)) (by (with_reducible repeat(first|refine blk_drewN ?_ _|refine blk_drew ?_|refine blk_alloc ?_ _));refine blk_far ?_ NB176_177.1 _;(with_reducible repeat(first|refine blk_drewN ?_ _|refine blk_drew ?_|refine blk_alloc ?_ _));exact BK176.1) hb);have n3_:=qAm (blk_below (g:=gb177) (o:=.cells #[.int .i64 a0_0,.slice none 0 0] 28 (0,0)) (by (with_reducible repeat(first|refine blk_drewN ?_ _|refine blk_drew ?_|refine blk_alloc ?_ _));refine blk_put (cs:=#[.int .i64 0,.slice none 0 0]) ?_ 0 _ rfl;(with_reducible repeat(first|refine blk_drewN ?_ _|refine blk_drew ?_|refine blk_alloc ?_ _));exact BK177.1) hb);have n4_:=qAm (below_step qB4 hb);clear BK175;clear BK176;clear BK177;clear HB;have HO180:=n0_;have BK175:=n1_;have BK176:=n2_;have BK177:=n3_;have HB:=n4_;clear n0_ n1_ n2_ n3_ n4_;(try clear hb);(try clear hb2);(try clear hk);(try clear hi);(try clear ho0);obtain⟨Ao12,co12,eo12⟩:=Kd.R_slice HO180.1;subst eo12;have hcz13_0:w11.cell? ⟨gb177,0,none⟩=some (.int .i64 a0_0):=(blk_cell BK177.1 0).trans rfl;have hcz13_1:w11.cell? ⟨gb177,1,none⟩=some (.slice none 0 0):=(blk_cell BK177.1 1).trans rfl;have hfz13_0:=blk_frozen BK177.1 0;have hfz13_1:=blk_frozen BK177.1 1;have hcz14_0:w11.cell? ⟨gb176,0,none⟩=some (.int .i64 0):=(blk_cell BK176.1 0).trans rfl;have hcz14_1:w11.cell? ⟨gb176,1,none⟩=some (.slice none 0 0):=(blk_cell BK176.1 1).trans rfl;have hfz14_0:=blk_frozen BK176.1 0;have hfz14_1:=blk_frozen BK176.1 1));refine bodyPost_ret (results_cell_row rfl _ _ gb176 28 #[.int .i64 a0_0,.slice Ao12 t178.length co12] (0,0) _ rfl (by (with_reducible repeat(first|refine blk_drewN ?_ _|refine blk_drew ?_|refine blk_alloc ?_ _));refine blk_put (cs:=#[.int .i64 a0_0,.slice none 0 0]) ?_ 1 _ rfl;(with_reducible repeat(first|refine blk_drewN ?_ _|refine blk_drew ?_|refine blk_alloc ?_ _));refine blk_put (cs:=#[.int .i64 0,.slice none 0 0]) ?_ 0 _ rfl;(with_reducible repeat(first|refine blk_drewN ?_ _|refine blk_drew ?_|refine blk_alloc ?_ _));refine blk_far ?_ NB176_177.1 _;(with_reducible repeat(first|refine blk_drewN ?_ _|refine blk_drew ?_|refine blk_alloc ?_ _));exact BK176.1) Try.underlying28 rfl (by kernel_rfl)) rfl ?_;exact⟨_,by first|rfl|(simp [errW_none,errW_some] <;> rfl)|(simp [*,errW_none,errW_some] <;> rfl),by (with_reducible repeat(first|apply Kd.R_alloc|apply Kd.R_drewN|apply Kd.R_drew));exact Kd.R_mono (Kd.R_far (p:=⟨gb176,1,none⟩) (Kd.R_far (p:=⟨gb176,0,none⟩) (Kd.R_far (p:=⟨gb177,1,none⟩) (Kd.R_types (Kd.R_types HO180.1 BK177.1 (by decide)) BK176.1 (by decide)) (fun _ hk=>hk.1.2) (.slice Ao12 t178.length co12)) (fun _ hk=>hk.2) (.int .i64 a0_0)) (fun _ hk=>hk.2) (.slice Ao12 t178.length co12)) (fun _ hk=>trivial),by repeat(first|(with_reducible first|exact HB.1|apply below_alloc|apply pw_below_drewN|apply below_drew1|refine below_set ?_ GE175.1|refine below_set ?_ GE176.1|refine below_set ?_ GE177.1)|exact HB.1)⟩

/-! ### impl_within: function 87 -/
def impl_within.f (a0:Int) (a1:Int) (a2:Int):Option (Bool):=if a1≤a0 then (some (decide (a0≤a2))) else (some false)
set_option maxHeartbeats 8000000 in
set_option maxRecDepth 100000 in
theorem impl_within.calls (a0:Int) (a1:Int) (a2:Int) (r:Bool) (w:World) (h:impl_within.f a0 a1 a2=some r):
    Calls Try.prog 87 #[.int .i64 a0,.int .i64 a1,.int .i64 a2] w fun e w'=>e=.returned (.bool r)∧Drawn0 w w':=by
  have H:(if a1≤a0 then (some (decide (a0≤a2))) else (some false))=some r:=h;clear h
  by_cases c4:a1≤a0
  · rw [if_pos c4] at H
    have c4b0:decide (a1≤a0)=true:=decide_eq_true c4;clear c4;obtain rfl:=Option.some.inj H;go_enter Try.func87,Try.ntmps87;go_wp2;go_ret;exact⟨by first|rfl|(simp;done)|(simp [*];done),by repeat(first|exact Drawn0.refl _|apply Drawn0.step)⟩
  · rw [if_neg c4] at H
    have c4b0:decide (a1≤a0)=false:=decide_eq_false c4;clear c4;obtain rfl:=Option.some.inj H;go_enter Try.func87,Try.ntmps87;go_wp2;go_ret;exact⟨by first|rfl|(simp;done)|(simp [*];done),by repeat(first|exact Drawn0.refl _|apply Drawn0.step)⟩

/-! ### impl_isOrder: function 103 -/
def impl_isOrder.f (a0:Int):Option (Bool):=(impl_within.f a0 1 16).bind fun t181=>(some t181)
set_option maxHeartbeats 8000000 in
set_option maxRecDepth 100000 in
theorem impl_isOrder.calls (a0:Int) (r:Bool) (w:World) (h:impl_isOrder.f a0=some r):
    Calls Try.prog 103 #[.int .i64 a0] w fun e w'=>e=.returned (.bool r)∧Drawn0 w w':=by
  have H:((impl_within.f a0 1 16).bind fun t181=>(some t181))=some r:=h;clear h;replace H:=qOb H;obtain⟨t181,A20,H⟩:=H;replace H:(some t181)=some r:=H;have A2:=qAm A20;clear A20;obtain rfl:=Option.some.inj H;go_enter Try.func103,Try.ntmps103;go_wp2_with (first|((with_reducible refine gate_callee (f:=87) rfl ?_);refine goesL_ (some 4) rfl rfl Try.func87 (by kernel_rfl) rfl #[.int .i64 a0,.int .i64 1,.int .i64 16] rfl qB14 ?_;(with_reducible refine(impl_within.calls a0 1 16 t181 _ A2.1).mono ?_);rintro e w' ⟨rfl,⟨nd,rfl⟩⟩;refine⟨_,rfl,?_⟩));go_ret;exact⟨by first|rfl|(simp;done)|(simp [*];done),by repeat(first|exact Drawn0.refl _|apply Drawn0.step)⟩

/-! ### impl_size: function 140 -/
def impl_size.f (a0:Int):Option (Int):=some (mx a0 (wrap64 (-a0)))
set_option maxHeartbeats 8000000 in
set_option maxRecDepth 100000 in
theorem impl_size.calls (a0:Int) (r:Int) (w:World) (h:impl_size.f a0=some r):
    Calls Try.prog 140 #[.int .i64 a0] w fun e w'=>e=.returned (.int .i64 r)∧Below w.heap.size w w':=by
  have HB:=qAm (Below.refl w.heap.size w);have H:(some (mx a0 (wrap64 (-a0))))=some r:=h;clear h;obtain⟨ji2,hji2⟩:∃j_:Int,(mx a0 (wrap64 (-a0)))=j_:=⟨_,rfl⟩
  replace H:(some ji2)=some r:=by first|(rw [hji2] at H;exact H)|(simp only [hji2] at H ⊢;exact H)
  have hji2_:(if a0<(wrap64 (-a0)) then (wrap64 (-a0)) else a0)=ji2:=hji2;obtain rfl:=Option.some.inj H;go_enter Try.func140,Try.ntmps140;go_wp2;go_ret;exact⟨by first|rfl|(simp [errW_none,errW_some] <;> rfl)|(simp only [← hji2];first|rfl|(simp [errW_none,errW_some] <;> rfl))|(simp [*,errW_none,errW_some] <;> rfl),by repeat(first|(with_reducible first|exact HB.1|apply below_alloc|apply pw_below_drewN|apply below_drew1)|exact HB.1)⟩

/-! ### impl_gcd: function 130 -/
def impl_gcd.l0:Nat→Int→Int→Option (Int)
  |0,_,_=>none
  |k+1,x0,x1=>if x1 > 0 then (if x1=0 then (none) else (impl_gcd.l0 k x1 (Int.tmod x0 x1))) else (some x0)
def impl_gcd.f (k:Nat) (a0:Int) (a1:Int):Option (Int):=(impl_size.f a0).bind fun t182=>((impl_size.f a1).bind fun t183=>(impl_gcd.l0 k t182 t183))
theorem impl_gcd.mono_l:∀k,(∀y0 y1,LeO (impl_gcd.l0 k y0 y1) (impl_gcd.l0 (k+1) y0 y1))
  |0=>fun _ _ r h=>by simp [impl_gcd.l0] at h
  |k+1=>by
    have ih0:=impl_gcd.mono_l k
    · intro y0 y1
      unfold impl_gcd.l0;repeat' first
      |(with_reducible exact ih0 _ _)
      |(with_reducible exact LeO.refl _)
      |(with_reducible exact LeO.none _)
      |(with_reducible refine LeO.ite ?_ ?_)
      |(with_reducible refine LeO.bind ?_ (fun _=>?_))
      |exact ih0 _ _
      |exact LeO.none _
      |refine LeO.ite ?_ ?_
      |refine LeO.bind ?_ (fun _=>?_)
theorem impl_gcd.mono:∀a0 a1 k,LeO (impl_gcd.f k a0 a1) (impl_gcd.f (k+1) a0 a1):=by
  intro a0 a1 k;have ih0:=impl_gcd.mono_l k;unfold impl_gcd.f;repeat' first
      |(with_reducible exact ih0 _ _)
      |(with_reducible exact LeO.refl _)
      |(with_reducible exact LeO.none _)
      |(with_reducible refine LeO.ite ?_ ?_)
      |(with_reducible refine LeO.bind ?_ (fun _=>?_))
      |exact ih0 _ _
      |exact LeO.none _
      |refine LeO.ite ?_ ?_
      |refine LeO.bind ?_ (fun _=>?_)
set_option maxHeartbeats 8000000 in
set_option maxRecDepth 100000 in
theorem impl_gcd.calls (k:Nat) (a0:Int) (a1:Int) (r:Int) (w:World) (h:impl_gcd.f k a0 a1=some r):
    Calls Try.prog 130 #[.int .i64 a0,.int .i64 a1] w fun e w'=>e=.returned (.int .i64 r)∧Below w.heap.size w w':=by
  have HB:=qAm (Below.refl w.heap.size w);have H:((impl_size.f a0).bind fun t182=>((impl_size.f a1).bind fun t183=>(impl_gcd.l0 k t182 t183)))=some r:=h;clear h;replace H:=qOb H;obtain⟨t182,A30,H⟩:=H;replace H:((impl_size.f a1).bind fun t183=>(impl_gcd.l0 k t182 t183))=some r:=H;have A3:=qAm A30;clear A30;replace H:=qOb H;obtain⟨t183,A40,H⟩:=H;replace H:(impl_gcd.l0 k t182 t183)=some r:=H;have A4:=qAm A40;clear A40;have H':=qAm H;clear H;go_enter Try.func130,Try.ntmps130;go_wp2_with (first|(go_at_call 140;(with_reducible refine(impl_size.calls a0 t182 _ A3.1).mono ?_);rintro e w5 ⟨rfl,hb⟩;have n0_:=qAm (below_step qB15 hb);clear HB;have HB:=n0_;clear n0_;(try clear hb);(try clear hb2);(try clear hk);(try clear hi))|(go_at_call 140;(with_reducible refine(impl_size.calls a1 t183 _ A4.1).mono ?_);rintro e w6 ⟨rfl,hb⟩;have n0_:=qAm (below_step qB15 hb);clear HB;have HB:=n0_;clear n0_;(try clear hb);(try clear hb2);(try clear hk);(try clear hi)));repeat(go_quiet (first|(go_at_call 140;(with_reducible refine(impl_size.calls a0 t182 _ A3.1).mono ?_);rintro e w5 ⟨rfl,hb⟩;have n0_:=qAm (below_step qB15 hb);clear HB;have HB:=n0_;clear n0_;(try clear hb);(try clear hb2);(try clear hk);(try clear hi))|(go_at_call 140;(with_reducible refine(impl_size.calls a1 t183 _ A4.1).mono ?_);rintro e w6 ⟨rfl,hb⟩;have n0_:=qAm (below_step qB15 hb);clear HB;have HB:=n0_;clear n0_;(try clear hb);(try clear hb2);(try clear hk);(try clear hi)));try go_wp2_with (first|(go_at_call 140;(with_reducible refine(impl_size.calls a0 t182 _ A3.1).mono ?_);rintro e w5 ⟨rfl,hb⟩;have n0_:=qAm (below_step qB15 hb);clear HB;have HB:=n0_;clear n0_;(try clear hb);(try clear hb2);(try clear hk);(try clear hi))|(go_at_call 140;(with_reducible refine(impl_size.calls a1 t183 _ A4.1).mono ?_);rintro e w6 ⟨rfl,hb⟩;have n0_:=qAm (below_step qB15 hb);clear HB;have HB:=n0_;clear n0_;(try clear hb);(try clear hb2);(try clear hk);(try clear hi))))
  try simp only [Act.put,qSa,qSc,qSb]
  go_loopg [0,1] k (fun kq v0 v1 w'=>∃(x0_1:Int) (x1_1:Int),v0=.int .i64 x0_1∧v1=.int .i64 x1_1∧Aside0 (impl_gcd.l0 kq x0_1 x1_1=some r)∧Aside0 (kq≤k)∧Aside0 (Below w.heap.size w w'))
  case atStart=>exact⟨(t182),(t183),qB41,qB41,H',⟨Nat.le_refl _⟩,⟨by repeat(first|(with_reducible first|exact HB.1|apply below_alloc|apply pw_below_drewN|apply below_drew1)|exact HB.1)⟩⟩
  case round=>
    clear H';try clear c1
    try clear p2
    obtain⟨x0_1,x1_1,rfl,rfl,HA,HK1,HB⟩:=hrel;cases gk with
    |zero=>exact absurd HA.1 (by simp [impl_gcd.l0])
    |succ k1=>
      have H:=HA.1;clear HA;simp only [impl_gcd.l0] at H
      by_cases c7:x1_1 > 0
      · rw [if_pos c7] at H
        have c7b0:decide (0<x1_1)=true:=decide_eq_true c7;clear c7
        by_cases c8:x1_1=0
        · rw [if_pos c8] at H
          exact absurd H (by simp)
        · rw [if_neg c8] at H
          have c8b0:(x1_1==0)=false:=beq_eq_false_iff_ne.mpr c8;have c8b1:(x1_1 !=0)=true:=bne_iff_ne.mpr c8;have H':=qAm H;clear H;go_wp2;repeat(go_quiet (fail);try go_wp2)
          (first|go_roundg k1|((try simp only [add_plain] at *);go_roundg k1))
          case measure=>have:=HK1.1;omega
          case rel=>exact⟨(x1_1),(Int.tmod x0_1 x1_1),qB41,qB41,H',⟨by have:=HK1.1;omega⟩,⟨by repeat(first|(with_reducible first|exact HB.1|apply below_alloc|apply pw_below_drewN|apply below_drew1)|exact HB.1)⟩⟩
      · rw [if_neg c7] at H
        have c7b0:decide (0<x1_1)=false:=decide_eq_false c7;clear c7;obtain rfl:=Option.some.inj H;go_wp2;repeat(go_quiet (fail);try go_wp2)
        go_ret;exact⟨by first|rfl|(simp [errW_none,errW_some] <;> rfl)|(simp [*,errW_none,errW_some] <;> rfl),by repeat(first|(with_reducible first|exact HB.1|apply below_alloc|apply pw_below_drewN|apply below_drew1)|exact HB.1)⟩

/-! ### impl_totient: function 104 -/
def impl_totient.l0:Nat→Int→Int→Int→Option (Int)
  |0,_,_,_=>none
  |k+1,x0,x3,x4=>if x4≤x0 then ((impl_gcd.f k x4 x0).bind fun t184=>(if t184=1 then (impl_totient.l0 k x0 (wrap64 (x3+1)) (wrap64 (x4+1))) else (impl_totient.l0 k x0 x3 (wrap64 (x4+1))))) else (some x3)
def impl_totient.f (k:Nat) (a0:Int):Option (Int):=impl_totient.l0 k a0 0 1
theorem impl_totient.mono_l:∀k,(∀y0 y1 y2,LeO (impl_totient.l0 k y0 y1 y2) (impl_totient.l0 (k+1) y0 y1 y2))
  |0=>fun _ _ _ r h=>by simp [impl_totient.l0] at h
  |k+1=>by
    have ih0:=impl_totient.mono_l k
    · intro y0 y1 y2
      unfold impl_totient.l0;repeat' first
      |(with_reducible exact ih0 _ _ _)
      |(with_reducible exact impl_gcd.mono _ _ _)
      |(with_reducible exact LeO.refl _)
      |(with_reducible exact LeO.none _)
      |(with_reducible refine LeO.ite ?_ ?_)
      |(with_reducible refine LeO.bind ?_ (fun _=>?_))
      |exact ih0 _ _ _
      |exact impl_gcd.mono _ _ _
      |exact LeO.none _
      |refine LeO.ite ?_ ?_
      |refine LeO.bind ?_ (fun _=>?_)
theorem impl_totient.mono:∀a0 k,LeO (impl_totient.f k a0) (impl_totient.f (k+1) a0):=by
  intro a0 k;have ih0:=impl_totient.mono_l k;unfold impl_totient.f;repeat' first
      |(with_reducible exact ih0 _ _ _)
      |(with_reducible exact impl_gcd.mono _ _ _)
      |(with_reducible exact LeO.refl _)
      |(with_reducible exact LeO.none _)
      |(with_reducible refine LeO.ite ?_ ?_)
      |(with_reducible refine LeO.bind ?_ (fun _=>?_))
      |exact ih0 _ _ _
      |exact impl_gcd.mono _ _ _
      |exact LeO.none _
      |refine LeO.ite ?_ ?_
      |refine LeO.bind ?_ (fun _=>?_)
set_option maxHeartbeats 8000000 in
set_option maxRecDepth 100000 in
theorem impl_totient.calls (k:Nat) (a0:Int) (r:Int) (w:World) (h:impl_totient.f k a0=some r):
    Calls Try.prog 104 #[.int .i64 a0] w fun e w'=>e=.returned (.int .i64 r)∧Below w.heap.size w w':=by
  have HB:=qAm (Below.refl w.heap.size w);have H:(impl_totient.l0 k a0 0 1)=some r:=h;clear h;have H':=qAm H;clear H;go_enter Try.func104,Try.ntmps104;go_wp2;try simp only [Act.put,qSa,qSc,qSb]
  go_loopg [3,4] k (fun kq v3 v4 w'=>∃(x3_1:Int) (x4_1:Int),v3=.int .i64 x3_1∧v4=.int .i64 x4_1∧Aside0 (impl_totient.l0 kq a0 x3_1 x4_1=some r)∧Aside0 (kq≤k)∧Aside0 (Below w.heap.size w w'))
  case atStart=>exact⟨(0),(1),qB41,qB41,H',⟨Nat.le_refl _⟩,⟨by repeat(first|(with_reducible first|exact HB.1|apply below_alloc|apply pw_below_drewN|apply below_drew1)|exact HB.1)⟩⟩
  case round=>
    clear H';try clear c1
    obtain⟨x3_1,x4_1,rfl,rfl,HA,HK1,HB⟩:=hrel;cases gk with
    |zero=>exact absurd HA.1 (by simp [impl_totient.l0])
    |succ k1=>
      have H:=HA.1;clear HA;simp only [impl_totient.l0] at H
      by_cases c2:x4_1≤a0
      · rw [if_pos c2] at H
        have c2b0:decide (x4_1≤a0)=true:=decide_eq_true c2;clear c2;replace H:=qOb H;obtain⟨t184,A30,H⟩:=H;replace H:(if t184=1 then (impl_totient.l0 k1 a0 (wrap64 (x3_1+1)) (wrap64 (x4_1+1))) else (impl_totient.l0 k1 a0 x3_1 (wrap64 (x4_1+1))))=some r:=H;have A3:=qAm A30;clear A30
        by_cases c4:t184=1
        · rw [if_pos c4] at H
          have c4b0:(t184==1)=true:=beq_iff_eq.mpr c4;have c4b1:(t184 !=1)=false:=bne_eq_false_iff_eq.mpr c4;clear c4;have H':=qAm H;clear H;go_wp2_with (first|((with_reducible refine gate_callee (f:=130) rfl ?_);refine goesL_ (some 12) rfl rfl Try.func130 (by kernel_rfl) rfl #[.int .i64 x4_1,.int .i64 a0] rfl qB14 ?_;(with_reducible refine(impl_gcd.calls k1 x4_1 a0 t184 _ A3.1).mono ?_);rintro e w5 ⟨rfl,hb⟩;refine⟨_,rfl,?_⟩;have n0_:=qAm (below_step qB15 hb);clear HB;have HB:=n0_;clear n0_;(try clear hb);(try clear hb2);(try clear hk);(try clear hi)))
          (first|go_roundg k1|((try simp only [add_plain] at *);go_roundg k1))
          case measure=>have:=HK1.1;omega
          case rel=>exact⟨(wrap64 (x3_1+1)),(wrap64 (x4_1+1)),qB41,qB41,H',⟨by have:=HK1.1;omega⟩,⟨by repeat(first|(with_reducible first|exact HB.1|apply below_alloc|apply pw_below_drewN|apply below_drew1)|exact HB.1)⟩⟩
        · rw [if_neg c4] at H
          have c4b0:(t184==1)=false:=beq_eq_false_iff_ne.mpr c4;have c4b1:(t184 !=1)=true:=bne_iff_ne.mpr c4;have H':=qAm H;clear H;go_wp2_with (first|((with_reducible refine gate_callee (f:=130) rfl ?_);refine goesL_ (some 12) rfl rfl Try.func130 (by kernel_rfl) rfl #[.int .i64 x4_1,.int .i64 a0] rfl qB14 ?_;(with_reducible refine(impl_gcd.calls k1 x4_1 a0 t184 _ A3.1).mono ?_);rintro e w6 ⟨rfl,hb⟩;refine⟨_,rfl,?_⟩;have n0_:=qAm (below_step qB15 hb);clear HB;have HB:=n0_;clear n0_;(try clear hb);(try clear hb2);(try clear hk);(try clear hi)))
          (first|go_roundg k1|((try simp only [add_plain] at *);go_roundg k1))
          case measure=>have:=HK1.1;omega
          case rel=>exact⟨(x3_1),(wrap64 (x4_1+1)),qB41,qB41,H',⟨by have:=HK1.1;omega⟩,⟨by repeat(first|(with_reducible first|exact HB.1|apply below_alloc|apply pw_below_drewN|apply below_drew1)|exact HB.1)⟩⟩
      · rw [if_neg c2] at H
        have c2b0:decide (x4_1≤a0)=false:=decide_eq_false c2;clear c2;obtain rfl:=Option.some.inj H;go_wp2;go_ret;exact⟨by first|rfl|(simp [errW_none,errW_some] <;> rfl)|(simp [*,errW_none,errW_some] <;> rfl),by repeat(first|(with_reducible first|exact HB.1|apply below_alloc|apply pw_below_drewN|apply below_drew1)|exact HB.1)⟩

-- NOT PRINTED: function 109 (slices_IndexFunc_int64_int64)

-- NOT PRINTED: function 85 (slices_ContainsFunc_int64_int64)

/-! ### impl_areSmall: function 105 -/
def impl_areSmall.f (l0:List Int) (a1:Int):Option (Bool):=some (l0.all fun n_=>decide (wrap64 (-a1)≤n_) && decide (n_≤a1))
-- HAND
theorem hsm_within (a0 a1 a2:Int) (w:World):
    Calls Try.prog 87 #[.int .i64 a0,.int .i64 a1,.int .i64 a2] w fun e w'=>e=.returned (.bool (decide (a1≤a0) && decide (a0≤a2)))∧Drawn0 w w':=by
  by_cases h1:a1≤a0 <;> by_cases h2:a0≤a2
  all_goals
    go_enter Try.func87,Try.ntmps87;go_wp2;go_ret;exact⟨by simp [*],Drawn0.refl _⟩

theorem hsm_cl (n m:Int) (B:Nat) (w:World) (hc:w.cell? ⟨B,0,none⟩=some (.int .i64 m)):
    Calls Try.prog 131 #[.int .i64 n,.pointer (some ⟨B,0,none⟩)] w fun e w'=>e=.returned (.bool (!(decide (wrap64 (-m)≤n) && decide (n≤m))))∧Drawn0 w w':=by
  go_enter Try.func131,Try.ntmps131;go_wp2_with (go_at_call 87;refine(hsm_within _ _ _ _).mono ?_;rintro e w' ⟨rfl,⟨nd,rfl⟩⟩);go_ret;exact⟨by simp,⟨_,rfl⟩⟩

def hsm_p (m n:Int):Bool:=decide (wrap64 (-m)≤n) && decide (n≤m)
def hsm_ix (m:Int) (l:List Int) (i:Int):Prop:=decide (0≤i)=!(l.all (hsm_p m))

theorem hsm_all {m:Int} {l:List Int} (h:∀j,j<l.length→hsm_p m (l.getD j 0)=true):l.all (hsm_p m)=true:=by
  rw [List.all_eq_true];intro x hx;obtain⟨j,hj,rfl⟩:=List.getElem_of_mem hx;have:=h j hj
  rwa [List.getD_eq_getElem?_getD,List.getElem?_eq_getElem hj] at this

theorem hsm_any {m:Int} {l:List Int} {j:Nat} (hj:j<l.length) (h:hsm_p m (l.getD j 0)=false):l.all (hsm_p m)=false:=by
  rw [Bool.eq_false_iff];intro h2;rw [List.all_eq_true] at h2;have:=h2 (l.getD j 0) (by rw [List.getD_eq_getElem?_getD,List.getElem?_eq_getElem hj];exact List.getElem_mem hj);rw [h] at this;cases this

theorem hsm_cl' (n m:Int) (B:Nat) (w:World) (b:Bool) (hc:w.cell? ⟨B,0,none⟩=some (.int .i64 m)) (hb:hsm_p m n=b):
    Calls Try.prog 131 #[.int .i64 n,.pointer (some ⟨B,0,none⟩)] w fun e w'=>e=.returned (.bool (!b))∧Drawn0 w w':=by
  subst hb;exact hsm_cl n m B w hc

set_option maxHeartbeats 1000000 in
theorem hsm_index (A:Option Addr) (c:Nat) (l:List Int) (m:Int) (B:Nat) (w:World) (hr:Kd.C (Kd.int .i64) w A l.length l) (hc:w.cell? ⟨B,0,none⟩=some (.int .i64 m)):
    Calls Try.prog 109 #[.slice A l.length c,.func (.func 131) #[] #[.pointer (some ⟨B,0,none⟩)]] w fun e w'=>∃i:Int,e=.returned (.int .i64 i)∧Aside0 (hsm_ix m l i)∧Drawn0 w w':=by
  have HR:=qAm hr;have HL:l.length≤9223372036854775807:=hr.2.1;clear hr;go_enter Try.func109,Try.ntmps109;go_wp2;go_loopg [8] (l.length+1) (fun kq v8 w'=>∃k:Nat,v8=.int .i64 k∧Aside0 (kq+k=l.length+1∧k≤l.length∧∀j,j<k→hsm_p m (l.getD j 0)=true)∧Drawn0 w w')
  case atStart=>exact⟨0,rfl,⟨by omega,by omega,fun j hj=>by omega⟩,Drawn0.refl _⟩
  case round=>
    obtain⟨k,rfl,HA,⟨m1,rfl⟩⟩:=hrel
    by_cases hlt:k<l.length
    · obtain⟨ad,hA,hx⟩:=Kd.at_int HR.1 (k:Int) (by omega) (by omega)
      cases hA
      have hx':w.cell? (ad.add k)=some (.int .i64 (rd l k)):=by simpa using hx
      clear hx;cases hb:hsm_p m (rd l k) with
      |true=>
        have HB:=qAm hb;clear hb;go_wp2_with (go_at_call 131;refine(hsm_cl' _ _ _ _ true (by simpa using hc) HB.1).mono ?_;rintro e w' ⟨rfl,⟨nd,rfl⟩⟩);go_roundg (gk - 1)
        case measure=>have:=HA.1;omega
        case rel=>
          refine⟨k+1,by go_num,⟨by have:=HA.1;omega,by omega,fun j hj=>?_⟩,⟨_,rfl⟩⟩
          by_cases hj':j<k
          · exact HA.1.2.2 j hj'
          · obtain rfl:j=k:=by omega
            exact HB.1
      |false=>
        have HB:=qAm hb;clear hb;go_wp2_with (go_at_call 131;refine(hsm_cl' _ _ _ _ false (by simpa using hc) HB.1).mono ?_;rintro e w' ⟨rfl,⟨nd,rfl⟩⟩);go_ret;exact⟨(k:Int),rfl,⟨by unfold hsm_ix;rw [hsm_any hlt HB.1];simp⟩,⟨_,rfl⟩⟩
    · go_wp2
      go_ret;exact⟨-1,rfl,⟨by unfold hsm_ix;rw [hsm_all (fun j hj=>HA.1.2.2 j (by omega))];simp⟩,⟨_,rfl⟩⟩

theorem hsm_contains (A:Option Addr) (c:Nat) (l:List Int) (m:Int) (B:Nat) (w:World) (hr:Kd.C (Kd.int .i64) w A l.length l) (hc:w.cell? ⟨B,0,none⟩=some (.int .i64 m)):
    Calls Try.prog 85 #[.slice A l.length c,.func (.func 131) #[] #[.pointer (some ⟨B,0,none⟩)]] w fun e w'=>e=.returned (.bool (!(l.all (hsm_p m))))∧Drawn0 w w':=by
  have HR:=qAm hr;clear hr;go_enter Try.func85,Try.ntmps85;go_wp2_with (go_at_call 109;refine(hsm_index _ _ l m B _ HR.1 hc).mono ?_;rintro e w' ⟨i,rfl,hi,⟨nd,rfl⟩⟩);go_ret;exact⟨by have:=hi.1;unfold hsm_ix at this;rw [← this];rfl,⟨_,rfl⟩⟩
set_option maxHeartbeats 8000000 in
set_option maxRecDepth 100000 in
theorem impl_areSmall.calls (A0:Option Addr) (c0:Nat) (l0:List Int) (a1:Int) (r:Bool) (w:World) (hr0:Kd.C (Kd.int .i64) w A0 l0.length l0) (hc0:l0.length≤c0) (h:impl_areSmall.f l0 a1=some r):
    Calls Try.prog 105 #[.slice A0 l0.length c0,.int .i64 a1] w fun e w'=>e=.returned (.bool r)∧Below w.heap.size w w':=by
  have HR:=qAm hr0;clear hr0;obtain rfl:r=l0.all (hsm_p a1):=(Option.some.inj h).symm;clear h;have hmf:∀(fn:Fn) (first cap:Array Value) (w:World),(Instr.makeFunc fn first cap).run Try.prog w=.ok (.func fn first cap) w:=fun _ _ _ _=>rfl
  go_enter Try.func105,Try.ntmps105;go_wp2_with (go_at_call 85;refine(hsm_contains _ _ l0 a1 w.heap.size _ (Kd.C_below HR.1 (below_alloc (Below.refl _ _) _)) (by simp)).mono ?_;rintro e w' ⟨rfl,⟨nd,rfl⟩⟩);go_ret;exact⟨by simp,pw_below_drewN (below_alloc (Below.refl _ _) _) _⟩

end Go.Proofs.Ytefhabkikaadiaa.PFnExactPlacesWith
