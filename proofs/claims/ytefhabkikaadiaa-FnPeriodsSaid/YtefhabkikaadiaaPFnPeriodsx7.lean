/- The functions that the law reaches, as plain functions, each with the proof that the program comes to it; no condition. Written by a program of this session (wip/mp.py) over the printing of the kit; what is marked HAND is told by hand. -/
import Derived.Test.YtefhabkikaadiaaPFnPeriodsx0
import Derived.Test.YtefhabkikaadiaaPFnPeriodsx1
import Derived.Test.YtefhabkikaadiaaPFnPeriodsx2
import Derived.Test.YtefhabkikaadiaaPFnPeriodsx3
import Derived.Test.YtefhabkikaadiaaPFnPeriodsx4
import Derived.Test.YtefhabkikaadiaaPFnPeriodsx5
import Derived.Test.YtefhabkikaadiaaPFnPeriodsx6
namespace Go.Proofs.Ytefhabkikaadiaa.PFnPeriods
open Go.RowKit Go.Proofs.YtefhabkikaadiaaW.PrintWords Go.Proofs.YtefhabkikaadiaaW.PrintLast Go.Proofs.YtefhabkikaadiaaW.PrintMore
attribute [local go_sem] max2_int min2_int max_two min_two max_three min_three max_four min_four   -- for this text's walks alone
set_option linter.unusedVariables false
set_option linter.unusedSimpArgs false

/-! ### impl_CyclotomicNumber: function 45 -/
-- HAND
theorem impl_ptable_cell (W:World) (g:Nat) (a:Addr) (h:a.block<g):({ W with heap:=W.heap.extract 0 g }:World).cell? a=W.cell? a:=by
  apply World.cell?_of_block
  show(W.heap.extract 0 g)[a.block]? =W.heap[a.block]?
  rw [Array.getElem?_extract]
  by_cases c:a.block<min g W.heap.size - 0
  · rw [if_pos c,Nat.zero_add]
  · rw [if_neg c]
    symm
    rw [Array.getElem?_eq_none]
    omega
theorem impl_ptable_here (k g cq:Nat) (p e f:Int) (cls:List Int) (r:List (List Int)) (Aq:Option Addr) (W:World) (hG:W.heap[g]? =some (.cells #[.int .i64 p,.int .i64 e,.int .i64 f,.slice Aq cls.length cq] 97 (0,0)))
    (hU:∀k_,(.slice Aq cls.length cq:Value).ownBlock=some k_→k_<g) (hC:Kd.C (Kd.int .i64) W Aq cls.length cls)
    (h:impl_ptable.f k p e f cls=some r):
    Calls Try.prog 92 #[.pointer (some ⟨g,0,none⟩)] W fun e w'=>∃v0_:Value,e=.returned v0_∧Kd.S (Kd.slice 2 (Kd.int .i64)) 22 w' W.heap.size (fun _=>True) v0_ r∧Below W.heap.size W w':=by
  unfold impl_ptable.f at h;obtain⟨⟨r1,d2,d3,d4⟩,h1,h2⟩:=qOb h;obtain rfl:r1=r:=Option.some.inj h2;have hlt:=blk_lt hG;have hsz:({ W with heap:=W.heap.extract 0 g }:World).heap.size=g:=by show(W.heap.extract 0 g).size=g;rw [Array.size_extract];omega
  have hB:Below ({ W with heap:=W.heap.extract 0 g }:World).heap.size { W with heap:=W.heap.extract 0 g } W:=by
    rw [hsz];refine⟨rfl,rfl,rfl,by rw [hsz];omega,fun i hi=>?_⟩
    show W.heap[i]? =(W.heap.extract 0 g)[i]?
    rw [Array.getElem?_extract,if_pos (by omega),Nat.zero_add]
  have hC0:Kd.C (Kd.int .i64) { W with heap:=W.heap.extract 0 g } Aq cls.length cls:=by
    have hR:=Kd.reads_of_C (d:=(0:Int)) hC;refine Kd.C_of_reads (d:=(0:Int)) ⟨hR.1,hR.2.1,fun hn=>?_⟩;obtain⟨ad,ea,hc⟩:=hR.2.2 hn;refine⟨ad,ea,fun j hj=>?_⟩;have hb:ad.block<g:=hU ad.block (by rw [ea];rfl);rw [impl_ptable_cell W g _ (by rw [add_block];exact hb)];exact hc j hj
  refine(impl_periods_table.calls k g p e f cls r1 d2 d3 d4 _ W ⟨Aq,cq,hG,by rw [hsz];exact Nat.le_refl _,hC0⟩ hB h1).mono ?_;rintro e w' ⟨v,rfl,ho,hiS,hb,hk⟩;refine⟨v,rfl,ho,⟨hb.os,hb.tape,hb.output,hk.k.1,fun i hi=>?_⟩⟩
  by_cases c:i=g
  · subst c;exact hk.b hi (by simp)
  · exact hk.k.2 i hi c (by simp)
def impl_CyclotomicNumber.f (k:Nat) (a0:Int) (a1:Int) (a2:Int) (a3:Int):Option (Int×Int):=(impl_periodsOf.f k a0 a1).bind fun bt358=>(if bt358.2.2.2.2=true then ((impl_within.f a2 0 (wrap64 (a1 - 1))).bind fun t366=>(if t366=true then ((impl_within.f a3 0 (wrap64 (a1 - 1))).bind fun t367=>(if t367=true then ((impl_ptable.f k bt358.1 bt358.2.1 bt358.2.2.1 bt358.2.2.2.1).bind fun t368=>(if 0≤a2 then (if a2<(t368.length:Int) then (if 0≤a3 then (if a3<((rd_L2 t368 a2).length:Int) then (some (rd (rd_L2 t368 a2) a3,0)) else (none)) else (none)) else (none)) else (none))) else (some (0,2)))) else (some (0,2)))) else (some (0,2)))
theorem impl_CyclotomicNumber.mono:∀a0 a1 a2 a3 k,LeO (impl_CyclotomicNumber.f k a0 a1 a2 a3) (impl_CyclotomicNumber.f (k+1) a0 a1 a2 a3):=by
  intro a0 a1 a2 a3 k;unfold impl_CyclotomicNumber.f;repeat' first
      |(with_reducible exact impl_periodsOf.mono _ _ _)
      |(with_reducible exact impl_ptable.mono _ _ _ _ _)
      |(with_reducible exact LeO.refl _)
      |(with_reducible exact LeO.none _)
      |(with_reducible refine LeO.ite ?_ ?_)
      |(with_reducible refine LeO.bind ?_ (fun _=>?_))
      |exact impl_periodsOf.mono _ _ _
      |exact impl_ptable.mono _ _ _ _ _
      |exact LeO.none _
      |refine LeO.ite ?_ ?_
      |refine LeO.bind ?_ (fun _=>?_)
set_option maxHeartbeats 8000000 in
set_option maxRecDepth 100000 in
theorem impl_CyclotomicNumber.calls (k:Nat) (a0:Int) (a1:Int) (a2:Int) (a3:Int) (r1:Int) (r2:Int) (w:World) (h:impl_CyclotomicNumber.f k a0 a1 a2 a3=some (r1,r2)):
    Calls Try.prog 45 #[.int .i64 a0,.int .i64 a1,.int .i64 a2,.int .i64 a3] w fun e w'=>e=.returned (.tuple #[.int .i64 r1,.int .i64 r2])∧Below w.heap.size w w':=by
  have hu97:=Try.underlying97;have HB:=qAm (Below.refl w.heap.size w);have H:((impl_periodsOf.f k a0 a1).bind fun bt358=>(if bt358.2.2.2.2=true then ((impl_within.f a2 0 (wrap64 (a1 - 1))).bind fun t366=>(if t366=true then ((impl_within.f a3 0 (wrap64 (a1 - 1))).bind fun t367=>(if t367=true then ((impl_ptable.f k bt358.1 bt358.2.1 bt358.2.2.1 bt358.2.2.2.1).bind fun t368=>(if 0≤a2 then (if a2<(t368.length:Int) then (if 0≤a3 then (if a3<((rd_L2 t368 a2).length:Int) then (some (rd (rd_L2 t368 a2) a3,0)) else (none)) else (none)) else (none)) else (none))) else (some (0,2)))) else (some (0,2)))) else (some (0,2))))=some (r1,r2):=h;clear h;replace H:=qOb H;obtain⟨⟨t358,t359,t360,t361,t364⟩,A50,H⟩:=H;replace H:(if t364=true then ((impl_within.f a2 0 (wrap64 (a1 - 1))).bind fun t366=>(if t366=true then ((impl_within.f a3 0 (wrap64 (a1 - 1))).bind fun t367=>(if t367=true then ((impl_ptable.f k t358 t359 t360 t361).bind fun t368=>(if 0≤a2 then (if a2<(t368.length:Int) then (if 0≤a3 then (if a3<((rd_L2 t368 a2).length:Int) then (some (rd (rd_L2 t368 a2) a3,0)) else (none)) else (none)) else (none)) else (none))) else (some (0,2)))) else (some (0,2)))) else (some (0,2)))=some (r1,r2):=H;have A5:=qAm A50;clear A50
  by_cases c6:t364=true
  · subst c6
    have H1:((impl_within.f a2 0 (wrap64 (a1 - 1))).bind fun t366=>(if t366=true then ((impl_within.f a3 0 (wrap64 (a1 - 1))).bind fun t367=>(if t367=true then ((impl_ptable.f k t358 t359 t360 t361).bind fun t368=>(if 0≤a2 then (if a2<(t368.length:Int) then (if 0≤a3 then (if a3<((rd_L2 t368 a2).length:Int) then (some (rd (rd_L2 t368 a2) a3,0)) else (none)) else (none)) else (none)) else (none))) else (some (0,2)))) else (some (0,2))))=some (r1,r2):=by rw [if_pos rfl] at H;exact H
    clear H;have H:=H1;clear H1;replace H:=qOb H;obtain⟨t366,A70,H⟩:=H;replace H:(if t366=true then ((impl_within.f a3 0 (wrap64 (a1 - 1))).bind fun t367=>(if t367=true then ((impl_ptable.f k t358 t359 t360 t361).bind fun t368=>(if 0≤a2 then (if a2<(t368.length:Int) then (if 0≤a3 then (if a3<((rd_L2 t368 a2).length:Int) then (some (rd (rd_L2 t368 a2) a3,0)) else (none)) else (none)) else (none)) else (none))) else (some (0,2)))) else (some (0,2)))=some (r1,r2):=H;have A7:=qAm A70;clear A70
    by_cases c8:t366=true
    · subst c8
      have H1:((impl_within.f a3 0 (wrap64 (a1 - 1))).bind fun t367=>(if t367=true then ((impl_ptable.f k t358 t359 t360 t361).bind fun t368=>(if 0≤a2 then (if a2<(t368.length:Int) then (if 0≤a3 then (if a3<((rd_L2 t368 a2).length:Int) then (some (rd (rd_L2 t368 a2) a3,0)) else (none)) else (none)) else (none)) else (none))) else (some (0,2))))=some (r1,r2):=by rw [if_pos rfl] at H;exact H
      clear H;have H:=H1;clear H1;replace H:=qOb H;obtain⟨t367,A90,H⟩:=H;replace H:(if t367=true then ((impl_ptable.f k t358 t359 t360 t361).bind fun t368=>(if 0≤a2 then (if a2<(t368.length:Int) then (if 0≤a3 then (if a3<((rd_L2 t368 a2).length:Int) then (some (rd (rd_L2 t368 a2) a3,0)) else (none)) else (none)) else (none)) else (none))) else (some (0,2)))=some (r1,r2):=H;have A9:=qAm A90;clear A90
      by_cases c10:t367=true
      · subst c10
        have H1:((impl_ptable.f k t358 t359 t360 t361).bind fun t368=>(if 0≤a2 then (if a2<(t368.length:Int) then (if 0≤a3 then (if a3<((rd_L2 t368 a2).length:Int) then (some (rd (rd_L2 t368 a2) a3,0)) else (none)) else (none)) else (none)) else (none)))=some (r1,r2):=by rw [if_pos rfl] at H;exact H
        clear H;have H:=H1;clear H1;replace H:=qOb H;obtain⟨t368,A110,H⟩:=H;replace H:(if 0≤a2 then (if a2<(t368.length:Int) then (if 0≤a3 then (if a3<((rd_L2 t368 a2).length:Int) then (some (rd (rd_L2 t368 a2) a3,0)) else (none)) else (none)) else (none)) else (none))=some (r1,r2):=H;have A11:=qAm A110;clear A110
        by_cases c12:0≤a2
        · rw [if_pos c12] at H
          have c12b0:decide (0≤a2)=true:=decide_eq_true c12;clear c12
          by_cases c13:a2<(t368.length:Int)
          · rw [if_pos c13] at H
            have c13b0:decide (a2<(t368.length:Int))=true:=decide_eq_true c13;clear c13
            by_cases c14:0≤a3
            · rw [if_pos c14] at H
              have c14b0:decide (0≤a3)=true:=decide_eq_true c14;clear c14
              by_cases c15:a3<((rd_L2 t368 a2).length:Int)
              · rw [if_pos c15] at H
                have c15b0:decide (a3<((rd_L2 t368 a2).length:Int))=true:=decide_eq_true c15;clear c15;simp only [Option.some.injEq,Prod.mk.injEq] at H;obtain⟨rfl,rfl⟩:=H;go_enter Try.func45,Try.ntmps45;go_wp2_with (first|((with_reducible refine gate_callee (f:=81) rfl ?_);refine goesL_ (some 15) rfl rfl Try.func81 (by kernel_rfl) rfl #[.int .i64 a0,.int .i64 a1] rfl qB19 ?_;(with_reducible refine(impl_periodsOf.calls k a0 a1 t358 t359 t360 t361 true _ A5.1).mono ?_);rintro e w16 ⟨v362,rfl,ho0,hb⟩;refine⟨_,rfl,?_⟩;have n0_:=qAm (Kd.R_lower ho0 (below_size qB23));have n1_:=qAm (below_step qB23 hb);clear HB;have HO363:=n0_;have HB:=n1_;clear n0_ n1_;(try clear hb);(try clear hb2);(try clear hk);(try clear hi);(try clear ho0))|((with_reducible refine gate_dst (N:=10) rfl ?_);refine box_event ?hg (N:=10) ?hd (cs:=#[.int .i64 0,.int .i64 0,.int .i64 0,.slice none 0 0]) (t:=97) ?hr ?_;(case hd=>rfl);(case hg=>rfl);(case hr=>first|(go_simp;done)|(go_simp;rfl));intro gb365 hg w17 hbox hb;have HU_:Aside0 (∀k_,(v362:Value).ownBlock=some k_→k_<gb365):=qAm (fun k_ e_=>by rw [hg];exact Kd.R_lt HO363.1 k_ e_);have n0_:=qAm (Kd.R_below qB37 hb);have n1_:=qAm (below_step qB23 hb);have n2_:=qAm (hbox);have n3_:=qAm ((by rw [hg];exact(below_size qB23):w.heap.size≤gb365));have n4_:=qAm ((by rw [hg];exact(below_size qB23):w.heap.size≤gb365));clear HO363;clear HB;have HO363:=n0_;have HB:=n1_;have BK365:=n2_;have GW365:=n3_;have GE365:=n4_;clear n0_ n1_ n2_ n3_ n4_;clear hb hbox hg;have hcz18_0:w17.cell? ⟨gb365,0,none⟩=some (.int .i64 0):=(blk_cell BK365.1 0).trans rfl;have hcz18_1:w17.cell? ⟨gb365,1,none⟩=some (.int .i64 0):=(blk_cell BK365.1 1).trans rfl;have hcz18_2:w17.cell? ⟨gb365,2,none⟩=some (.int .i64 0):=(blk_cell BK365.1 2).trans rfl;have hcz18_3:w17.cell? ⟨gb365,3,none⟩=some (.slice none 0 0):=(blk_cell BK365.1 3).trans rfl;have hfz18_0:=blk_frozen BK365.1 0;have hfz18_1:=blk_frozen BK365.1 1;have hfz18_2:=blk_frozen BK365.1 2;have hfz18_3:=blk_frozen BK365.1 3;obtain⟨Ao19,co19,eo19⟩:=Kd.R_slice HO363.1;subst eo19)|(go_at_call 87;(with_reducible refine(impl_within.calls a2 0 (wrap64 (a1 - 1)) true _ A7.1).mono ?_);rintro e w' ⟨rfl,⟨nd,rfl⟩⟩)|(go_at_call 87;(with_reducible refine(impl_within.calls a3 0 (wrap64 (a1 - 1)) true _ A9.1).mono ?_);rintro e w' ⟨rfl,⟨nd,rfl⟩⟩)|((with_reducible refine gate_callee (f:=92) rfl ?_);refine goesL_ (some 34) rfl rfl Try.func92 (by kernel_rfl) rfl #[.pointer (some ⟨gb365,0,none⟩)] rfl qB19 ?_;refine Calls.mono (impl_ptable_here k gb365 co19 t358 t359 t360 t361 t368 Ao19 _ ?hG_ HU_.1 ?side1 A11.1) ?_;(case hG_=>exact qB2);(case side1=>refine(Kd.R_reads' (e:=2) (base:=w.heap.size) (ok:=fun k_=>True) (n:=t361.length) (c:=co19) ?_).2.2;exact qB5);rintro e w20 ⟨v369,rfl,ho0,hb⟩;refine⟨_,rfl,?_⟩;have n0_:=qAm (Kd.R_below qB5 hb);have n1_:=qAm (Kd.S_lower (Kd.S_new' ho0 (Kd.R_lt qB5)) (below_size qB16));have n2_:=qAm (blk_below (g:=gb365) (o:=.cells #[.int .i64 t358,.int .i64 t359,.int .i64 t360,.slice Ao19 t361.length co19] 97 (0,0)) qB2 hb);have n3_:=qAm (below_step qB16 hb);clear HO363;clear BK365;clear HB;have HO363:=n0_;have HO370:=n1_;have BK365:=n2_;have HB:=n3_;clear n0_ n1_ n2_ n3_;(try clear hb);(try clear hb2);(try clear hk);(try clear hi);(try clear ho0);obtain⟨Ao21,co21,eo21⟩:=Kd.S_slice HO370.1;subst eo21;have p371:0≤(a2:Int):=of_decide_eq_true qB56;have q371:a2<(t368.length:Int):=of_decide_eq_true qB56;obtain⟨ad371,A371_0,c371_0,e371,hx371_0,hl371_0,hi371_0⟩:=at_L2 (Kd.S_reads' HO370.1).2.2 a2 p371 q371;cases e371;obtain⟨ce371,hce371,hMe371,hcc371⟩:=Kd.S_get HO370.1 [] a2 p371 (by first|exact q371|exact of_decide_eq_true qB56|(have e_:=(Kd.S_reads' HO370.1).1;omega));obtain⟨ve371_0,rfl,ge371_0⟩:=hMe371;have hv371_0:=hcc371 0 _ rfl;rw [Nat.add_zero,show((Kd.slice 2 (Kd.int .i64))).sz=1 from rfl,Nat.mul_one] at hv371_0;replace hv371_0:=Option.some.inj (hv371_0.symm.trans hx371_0);rw [hv371_0] at ge371_0;have HL371_0:=qAm (show Kd.R (Kd.int .i64) 2 _ _ _ _ (rd_L2 t368 a2) from ge371_0);clear hv371_0 ge371_0;clear hcc371 hce371;have HR371_0:=qAm hi371_0;have HC371_0:=qAm hl371_0;clear hi371_0 hl371_0;replace p371:=eq_true p371;replace q371:=eq_true q371;have p372:0≤(a3:Int):=of_decide_eq_true qB56;have q372:a3<((rd_L2 t368 a2).length:Int):=of_decide_eq_true qB56;obtain⟨ad372,e372,hx372_0⟩:=Kd.at_int (by repeat(first|(with_reducible exact HR371_0.1)|(with_reducible refine Kd.C_alloc ?_ _)|(with_reducible refine Kd.C_drewN ?_ _)|(with_reducible refine Kd.C_drew ?_)|exact HR371_0.1)) a3 p372 q372;cases e372;replace p372:=eq_true p372;replace q372:=eq_true q372));go_ret2;exact⟨by first|rfl|(simp [errW_none,errW_some] <;> rfl)|(simp [*,errW_none,errW_some] <;> rfl),by repeat(first|(with_reducible first|exact HB.1|apply below_alloc|apply pw_below_drewN|apply below_drew1|refine below_set ?_ GE365.1)|exact HB.1)⟩
              · rw [if_neg c15] at H
                exact absurd H (by simp)
            · rw [if_neg c14] at H
              exact absurd H (by simp)
          · rw [if_neg c13] at H
            exact absurd H (by simp)
        · rw [if_neg c12] at H
          exact absurd H (by simp)
      · replace c10:=Bool.eq_false_iff.mpr c10
        subst c10;have H1:(some (0,2))=some (r1,r2):=by rw [if_neg (show ¬(false=true) by decide)] at H;exact H
        clear H;have H:=H1;clear H1;simp only [Option.some.injEq,Prod.mk.injEq] at H;obtain⟨rfl,rfl⟩:=H;go_enter Try.func45,Try.ntmps45;go_wp2_with (first|((with_reducible refine gate_callee (f:=81) rfl ?_);refine goesL_ (some 15) rfl rfl Try.func81 (by kernel_rfl) rfl #[.int .i64 a0,.int .i64 a1] rfl qB19 ?_;(with_reducible refine(impl_periodsOf.calls k a0 a1 t358 t359 t360 t361 true _ A5.1).mono ?_);rintro e w22 ⟨v362,rfl,ho0,hb⟩;refine⟨_,rfl,?_⟩;have n0_:=qAm (Kd.R_lower ho0 (below_size qB23));have n1_:=qAm (below_step qB23 hb);clear HB;have HO363:=n0_;have HB:=n1_;clear n0_ n1_;(try clear hb);(try clear hb2);(try clear hk);(try clear hi);(try clear ho0))|((with_reducible refine gate_dst (N:=10) rfl ?_);refine box_event ?hg (N:=10) ?hd (cs:=#[.int .i64 0,.int .i64 0,.int .i64 0,.slice none 0 0]) (t:=97) ?hr ?_;(case hd=>rfl);(case hg=>rfl);(case hr=>first|(go_simp;done)|(go_simp;rfl));intro gb365 hg w23 hbox hb;have HU_:Aside0 (∀k_,(v362:Value).ownBlock=some k_→k_<gb365):=qAm (fun k_ e_=>by rw [hg];exact Kd.R_lt HO363.1 k_ e_);have n0_:=qAm (Kd.R_below qB37 hb);have n1_:=qAm (below_step qB23 hb);have n2_:=qAm (hbox);have n3_:=qAm ((by rw [hg];exact(below_size qB23):w.heap.size≤gb365));have n4_:=qAm ((by rw [hg];exact(below_size qB23):w.heap.size≤gb365));clear HO363;clear HB;have HO363:=n0_;have HB:=n1_;have BK365:=n2_;have GW365:=n3_;have GE365:=n4_;clear n0_ n1_ n2_ n3_ n4_;clear hb hbox hg;have hcz24_0:w23.cell? ⟨gb365,0,none⟩=some (.int .i64 0):=(blk_cell BK365.1 0).trans rfl;have hcz24_1:w23.cell? ⟨gb365,1,none⟩=some (.int .i64 0):=(blk_cell BK365.1 1).trans rfl;have hcz24_2:w23.cell? ⟨gb365,2,none⟩=some (.int .i64 0):=(blk_cell BK365.1 2).trans rfl;have hcz24_3:w23.cell? ⟨gb365,3,none⟩=some (.slice none 0 0):=(blk_cell BK365.1 3).trans rfl;have hfz24_0:=blk_frozen BK365.1 0;have hfz24_1:=blk_frozen BK365.1 1;have hfz24_2:=blk_frozen BK365.1 2;have hfz24_3:=blk_frozen BK365.1 3;obtain⟨Ao25,co25,eo25⟩:=Kd.R_slice HO363.1;subst eo25)|(go_at_call 87;(with_reducible refine(impl_within.calls a2 0 (wrap64 (a1 - 1)) true _ A7.1).mono ?_);rintro e w' ⟨rfl,⟨nd,rfl⟩⟩)|(go_at_call 87;(with_reducible refine(impl_within.calls a3 0 (wrap64 (a1 - 1)) false _ A9.1).mono ?_);rintro e w' ⟨rfl,⟨nd,rfl⟩⟩));go_ret2;exact⟨by first|rfl|(simp [errW_none,errW_some] <;> rfl)|(simp [*,errW_none,errW_some] <;> rfl),by repeat(first|(with_reducible first|exact HB.1|apply below_alloc|apply pw_below_drewN|apply below_drew1|refine below_set ?_ GE365.1)|exact HB.1)⟩
    · replace c8:=Bool.eq_false_iff.mpr c8
      subst c8;have H1:(some (0,2))=some (r1,r2):=by rw [if_neg (show ¬(false=true) by decide)] at H;exact H
      clear H;have H:=H1;clear H1;simp only [Option.some.injEq,Prod.mk.injEq] at H;obtain⟨rfl,rfl⟩:=H;go_enter Try.func45,Try.ntmps45;go_wp2_with (first|((with_reducible refine gate_callee (f:=81) rfl ?_);refine goesL_ (some 15) rfl rfl Try.func81 (by kernel_rfl) rfl #[.int .i64 a0,.int .i64 a1] rfl qB19 ?_;(with_reducible refine(impl_periodsOf.calls k a0 a1 t358 t359 t360 t361 true _ A5.1).mono ?_);rintro e w26 ⟨v362,rfl,ho0,hb⟩;refine⟨_,rfl,?_⟩;have n0_:=qAm (Kd.R_lower ho0 (below_size qB23));have n1_:=qAm (below_step qB23 hb);clear HB;have HO363:=n0_;have HB:=n1_;clear n0_ n1_;(try clear hb);(try clear hb2);(try clear hk);(try clear hi);(try clear ho0))|((with_reducible refine gate_dst (N:=10) rfl ?_);refine box_event ?hg (N:=10) ?hd (cs:=#[.int .i64 0,.int .i64 0,.int .i64 0,.slice none 0 0]) (t:=97) ?hr ?_;(case hd=>rfl);(case hg=>rfl);(case hr=>first|(go_simp;done)|(go_simp;rfl));intro gb365 hg w27 hbox hb;have HU_:Aside0 (∀k_,(v362:Value).ownBlock=some k_→k_<gb365):=qAm (fun k_ e_=>by rw [hg];exact Kd.R_lt HO363.1 k_ e_);have n0_:=qAm (Kd.R_below qB37 hb);have n1_:=qAm (below_step qB23 hb);have n2_:=qAm (hbox);have n3_:=qAm ((by rw [hg];exact(below_size qB23):w.heap.size≤gb365));have n4_:=qAm ((by rw [hg];exact(below_size qB23):w.heap.size≤gb365));clear HO363;clear HB;have HO363:=n0_;have HB:=n1_;have BK365:=n2_;have GW365:=n3_;have GE365:=n4_;clear n0_ n1_ n2_ n3_ n4_;clear hb hbox hg;have hcz28_0:w27.cell? ⟨gb365,0,none⟩=some (.int .i64 0):=(blk_cell BK365.1 0).trans rfl;have hcz28_1:w27.cell? ⟨gb365,1,none⟩=some (.int .i64 0):=(blk_cell BK365.1 1).trans rfl;have hcz28_2:w27.cell? ⟨gb365,2,none⟩=some (.int .i64 0):=(blk_cell BK365.1 2).trans rfl;have hcz28_3:w27.cell? ⟨gb365,3,none⟩=some (.slice none 0 0):=(blk_cell BK365.1 3).trans rfl;have hfz28_0:=blk_frozen BK365.1 0;have hfz28_1:=blk_frozen BK365.1 1;have hfz28_2:=blk_frozen BK365.1 2;have hfz28_3:=blk_frozen BK365.1 3;obtain⟨Ao29,co29,eo29⟩:=Kd.R_slice HO363.1;subst eo29)|(go_at_call 87;(with_reducible refine(impl_within.calls a2 0 (wrap64 (a1 - 1)) false _ A7.1).mono ?_);rintro e w' ⟨rfl,⟨nd,rfl⟩⟩));go_ret2;exact⟨by first|rfl|(simp [errW_none,errW_some] <;> rfl)|(simp [*,errW_none,errW_some] <;> rfl),by repeat(first|(with_reducible first|exact HB.1|apply below_alloc|apply pw_below_drewN|apply below_drew1|refine below_set ?_ GE365.1)|exact HB.1)⟩
  · replace c6:=Bool.eq_false_iff.mpr c6
    subst c6;have H1:(some (0,2))=some (r1,r2):=by rw [if_neg (show ¬(false=true) by decide)] at H;exact H
    clear H;have H:=H1;clear H1;simp only [Option.some.injEq,Prod.mk.injEq] at H;obtain⟨rfl,rfl⟩:=H;go_enter Try.func45,Try.ntmps45;go_wp2_with (first|((with_reducible refine gate_callee (f:=81) rfl ?_);refine goesL_ (some 15) rfl rfl Try.func81 (by kernel_rfl) rfl #[.int .i64 a0,.int .i64 a1] rfl qB19 ?_;(with_reducible refine(impl_periodsOf.calls k a0 a1 t358 t359 t360 t361 false _ A5.1).mono ?_);rintro e w30 ⟨v362,rfl,ho0,hb⟩;refine⟨_,rfl,?_⟩;have n0_:=qAm (Kd.R_lower ho0 (below_size qB23));have n1_:=qAm (below_step qB23 hb);clear HB;have HO363:=n0_;have HB:=n1_;clear n0_ n1_;(try clear hb);(try clear hb2);(try clear hk);(try clear hi);(try clear ho0))|((with_reducible refine gate_dst (N:=10) rfl ?_);refine box_event ?hg (N:=10) ?hd (cs:=#[.int .i64 0,.int .i64 0,.int .i64 0,.slice none 0 0]) (t:=97) ?hr ?_;(case hd=>rfl);(case hg=>rfl);(case hr=>first|(go_simp;done)|(go_simp;rfl));intro gb365 hg w31 hbox hb;have HU_:Aside0 (∀k_,(v362:Value).ownBlock=some k_→k_<gb365):=qAm (fun k_ e_=>by rw [hg];exact Kd.R_lt HO363.1 k_ e_);have n0_:=qAm (Kd.R_below qB37 hb);have n1_:=qAm (below_step qB23 hb);have n2_:=qAm (hbox);have n3_:=qAm ((by rw [hg];exact(below_size qB23):w.heap.size≤gb365));have n4_:=qAm ((by rw [hg];exact(below_size qB23):w.heap.size≤gb365));clear HO363;clear HB;have HO363:=n0_;have HB:=n1_;have BK365:=n2_;have GW365:=n3_;have GE365:=n4_;clear n0_ n1_ n2_ n3_ n4_;clear hb hbox hg;have hcz32_0:w31.cell? ⟨gb365,0,none⟩=some (.int .i64 0):=(blk_cell BK365.1 0).trans rfl;have hcz32_1:w31.cell? ⟨gb365,1,none⟩=some (.int .i64 0):=(blk_cell BK365.1 1).trans rfl;have hcz32_2:w31.cell? ⟨gb365,2,none⟩=some (.int .i64 0):=(blk_cell BK365.1 2).trans rfl;have hcz32_3:w31.cell? ⟨gb365,3,none⟩=some (.slice none 0 0):=(blk_cell BK365.1 3).trans rfl;have hfz32_0:=blk_frozen BK365.1 0;have hfz32_1:=blk_frozen BK365.1 1;have hfz32_2:=blk_frozen BK365.1 2;have hfz32_3:=blk_frozen BK365.1 3;obtain⟨Ao33,co33,eo33⟩:=Kd.R_slice HO363.1;subst eo33));go_ret2;exact⟨by first|rfl|(simp [errW_none,errW_some] <;> rfl)|(simp [*,errW_none,errW_some] <;> rfl),by repeat(first|(with_reducible first|exact HB.1|apply below_alloc|apply pw_below_drewN|apply below_drew1|refine below_set ?_ GE365.1)|exact HB.1)⟩

/-! ### spec_CyclotomicNumber: function 46 -/
def spec_CyclotomicNumber.f (k:Nat) (a0:Int) (a1:Int) (a2:Int) (a3:Int):Option (Int×Int):=(spec_l06Code.f k a0 a1 (([a2,a3]:List Int))).bind fun t376=>(if t376=0 then ((spec_l06Table.f k a0 a1).bind fun t377=>(if 0≤a2 then (if a2<(t377.length:Int) then (if 0≤a3 then (if a3<((rd_L2 t377 a2).length:Int) then (some (rd (rd_L2 t377 a2) a3,0)) else (none)) else (none)) else (none)) else (none))) else (some (0,t376)))
theorem spec_CyclotomicNumber.mono:∀a0 a1 a2 a3 k,LeO (spec_CyclotomicNumber.f k a0 a1 a2 a3) (spec_CyclotomicNumber.f (k+1) a0 a1 a2 a3):=by
  intro a0 a1 a2 a3 k;unfold spec_CyclotomicNumber.f;repeat' first
      |(with_reducible exact spec_l06Code.mono _ _ _ _)
      |(with_reducible exact spec_l06Table.mono _ _ _)
      |(with_reducible exact LeO.refl _)
      |(with_reducible exact LeO.none _)
      |(with_reducible refine LeO.ite ?_ ?_)
      |(with_reducible refine LeO.bind ?_ (fun _=>?_))
      |exact spec_l06Code.mono _ _ _ _
      |exact spec_l06Table.mono _ _ _
      |exact LeO.none _
      |refine LeO.ite ?_ ?_
      |refine LeO.bind ?_ (fun _=>?_)
set_option maxHeartbeats 8000000 in
set_option maxRecDepth 100000 in
theorem spec_CyclotomicNumber.calls (k:Nat) (a0:Int) (a1:Int) (a2:Int) (a3:Int) (r1:Int) (r2:Int) (w:World) (h:spec_CyclotomicNumber.f k a0 a1 a2 a3=some (r1,r2)):
    Calls Try.prog 46 #[.int .i64 a0,.int .i64 a1,.int .i64 a2,.int .i64 a3] w fun e w'=>e=.returned (.tuple #[.int .i64 r1,.int .i64 r2])∧Below w.heap.size w w':=by
  have HB:=qAm (Below.refl w.heap.size w);have H:((spec_l06Code.f k a0 a1 (([a2,a3]:List Int))).bind fun t376=>(if t376=0 then ((spec_l06Table.f k a0 a1).bind fun t377=>(if 0≤a2 then (if a2<(t377.length:Int) then (if 0≤a3 then (if a3<((rd_L2 t377 a2).length:Int) then (some (rd (rd_L2 t377 a2) a3,0)) else (none)) else (none)) else (none)) else (none))) else (some (0,t376))))=some (r1,r2):=h;clear h;obtain⟨y373,hy373⟩:∃y_:List Int,y_=(([a2,a3]:List Int)):=⟨_,rfl⟩
  replace H:((spec_l06Code.f k a0 a1 y373).bind fun t376=>(if t376=0 then ((spec_l06Table.f k a0 a1).bind fun t377=>(if 0≤a2 then (if a2<(t377.length:Int) then (if 0≤a3 then (if a3<((rd_L2 t377 a2).length:Int) then (some (rd (rd_L2 t377 a2) a3,0)) else (none)) else (none)) else (none)) else (none))) else (some (0,t376))))=some (r1,r2):=by first|(rw [hy373];with_reducible exact H)|(have H2_:=(Option.bind_some _ _).symm.trans H;rw [hy373];with_reducible exact H2_)|(have H2_:=(Option.bind_some _ _).symm.trans H;with_reducible exact H2_)|with_reducible exact H|(rw [hy373];exact H)|exact H
  have Ny373:=qAm hy373;clear hy373;replace H:=qOb H;obtain⟨t376,A50,H⟩:=H;replace H:(if t376=0 then ((spec_l06Table.f k a0 a1).bind fun t377=>(if 0≤a2 then (if a2<(t377.length:Int) then (if 0≤a3 then (if a3<((rd_L2 t377 a2).length:Int) then (some (rd (rd_L2 t377 a2) a3,0)) else (none)) else (none)) else (none)) else (none))) else (some (0,t376)))=some (r1,r2):=H;have A5:=qAm A50;clear A50
  by_cases c6:t376=0
  · rw [if_pos c6] at H
    have c6b0:(t376==0)=true:=beq_iff_eq.mpr c6;have c6b1:(t376 !=0)=false:=bne_eq_false_iff_eq.mpr c6;clear c6;replace H:=qOb H;obtain⟨t377,A70,H⟩:=H;replace H:(if 0≤a2 then (if a2<(t377.length:Int) then (if 0≤a3 then (if a3<((rd_L2 t377 a2).length:Int) then (some (rd (rd_L2 t377 a2) a3,0)) else (none)) else (none)) else (none)) else (none))=some (r1,r2):=H;have A7:=qAm A70;clear A70
    by_cases c8:0≤a2
    · rw [if_pos c8] at H
      have c8b0:decide (0≤a2)=true:=decide_eq_true c8;clear c8
      by_cases c9:a2<(t377.length:Int)
      · rw [if_pos c9] at H
        have c9b0:decide (a2<(t377.length:Int))=true:=decide_eq_true c9;clear c9
        by_cases c10:0≤a3
        · rw [if_pos c10] at H
          have c10b0:decide (0≤a3)=true:=decide_eq_true c10;clear c10
          by_cases c11:a3<((rd_L2 t377 a2).length:Int)
          · rw [if_pos c11] at H
            have c11b0:decide (a3<((rd_L2 t377 a2).length:Int))=true:=decide_eq_true c11;clear c11;simp only [Option.some.injEq,Prod.mk.injEq] at H;obtain⟨rfl,rfl⟩:=H;go_enter Try.func46,Try.ntmps46;go_wp2_with (first|((with_reducible refine gate_dst (N:=15) rfl ?_);refine Kd.R_lit (Kd.int .i64) _ 2 ?hg (N:=15) ?hd (xs:=([a2,a3]:List Int)) (inner:=[.int .i64 a2,.int .i64 a3]) (ok:=fun _=>True) (okp:=fun _=>True) ?hr ?hp (fun _ hk=>hk) trivial (Below.refl _ _) (Nat.le_refl _) (by simp) ?_;(case hd=>rfl);(case hg=>rfl);(case hr=>first|(go_simp;done)|(go_simp;rfl));(case hp=>exact(Reps.one (show Kd.M (Kd.int .i64) _ _ _ a2 [.int .i64 a2] from rfl) (Reps.one (show Kd.M (Kd.int .i64) _ _ _ a3 [.int .i64 a3] from rfl) (Reps.none _ _))));intro v374 w12 ho13 hb hg_ hnew_;clear hg_ hnew_;(first|rw [← Ny373.1] at ho13|(simp only [Int.reduceToNat] at ho13;rw [← Ny373.1] at ho13));have n0_:=qAm (Kd.R_lower ho13 (below_size qB23));have n1_:=qAm (below_step qB23 hb);clear HB;have HO375:=n0_;have HB:=n1_;clear n0_ n1_;clear hb ho13;obtain⟨Ao14,co14,eo14⟩:=Kd.R_slice HO375.1;subst eo14)|((with_reducible refine gate_callee (f:=79) rfl ?_);refine goesL_ (some 16) rfl rfl Try.func79 (by kernel_rfl) rfl #[.int .i64 a0,.int .i64 a1,.slice Ao14 y373.length co14] rfl qB19 ?_;(with_reducible refine(spec_l06Code.calls k a0 a1 _ _ y373 t376 _ ?side1 ?side2 A5.1).mono ?_);(case side1=>repeat(first|exact(Kd.R_reads' HO375.1).2.2|(with_reducible refine Kd.C_alloc ?_ _)|(with_reducible refine Kd.C_drewN ?_ _)|(with_reducible refine Kd.C_drew ?_)));(case side2=>exact(Kd.R_reads' HO375.1).2.1);rintro e w' ⟨rfl,⟨nd,rfl⟩⟩;refine⟨_,rfl,?_⟩)|((with_reducible refine gate_callee (f:=93) rfl ?_);refine goesL_ (some 22) rfl rfl Try.func93 (by kernel_rfl) rfl #[.int .i64 a0,.int .i64 a1] rfl qB19 ?_;(with_reducible refine(spec_l06Table.calls k a0 a1 t377 _ A7.1).mono ?_);rintro e w15 ⟨v378,rfl,ho0,hb⟩;refine⟨_,rfl,?_⟩;have n0_:=qAm (Kd.R_below qB38 hb);have n1_:=qAm (Kd.S_lower (Kd.S_new' ho0 (Kd.R_lt qB38)) (below_size qB23));have n2_:=qAm (below_step qB23 hb);clear HO375;clear HB;have HO375:=n0_;have HO379:=n1_;have HB:=n2_;clear n0_ n1_ n2_;(try clear hb);(try clear hb2);(try clear hk);(try clear hi);(try clear ho0);obtain⟨Ao16,co16,eo16⟩:=Kd.S_slice HO379.1;subst eo16;have p380:0≤(a2:Int):=of_decide_eq_true qB56;have q380:a2<(t377.length:Int):=of_decide_eq_true qB56;obtain⟨ad380,A380_0,c380_0,e380,hx380_0,hl380_0,hi380_0⟩:=at_L2 (Kd.S_reads' HO379.1).2.2 a2 p380 q380;cases e380;obtain⟨ce380,hce380,hMe380,hcc380⟩:=Kd.S_get HO379.1 [] a2 p380 (by first|exact q380|exact of_decide_eq_true qB56|(have e_:=(Kd.S_reads' HO379.1).1;omega));obtain⟨ve380_0,rfl,ge380_0⟩:=hMe380;have hv380_0:=hcc380 0 _ rfl;rw [Nat.add_zero,show((Kd.slice 2 (Kd.int .i64))).sz=1 from rfl,Nat.mul_one] at hv380_0;replace hv380_0:=Option.some.inj (hv380_0.symm.trans hx380_0);rw [hv380_0] at ge380_0;have HL380_0:=qAm (show Kd.R (Kd.int .i64) 2 _ _ _ _ (rd_L2 t377 a2) from ge380_0);clear hv380_0 ge380_0;clear hcc380 hce380;have HR380_0:=qAm hi380_0;have HC380_0:=qAm hl380_0;clear hi380_0 hl380_0;replace p380:=eq_true p380;replace q380:=eq_true q380;have p381:0≤(a3:Int):=of_decide_eq_true qB56;have q381:a3<((rd_L2 t377 a2).length:Int):=of_decide_eq_true qB56;obtain⟨ad381,e381,hx381_0⟩:=Kd.at_int (by repeat(first|(with_reducible exact HR380_0.1)|(with_reducible refine Kd.C_alloc ?_ _)|(with_reducible refine Kd.C_drewN ?_ _)|(with_reducible refine Kd.C_drew ?_)|exact HR380_0.1)) a3 p381 q381;cases e381;replace p381:=eq_true p381;replace q381:=eq_true q381));go_ret2;exact⟨by first|rfl|(simp [errW_none,errW_some] <;> rfl)|(simp [*,errW_none,errW_some] <;> rfl),by repeat(first|(with_reducible first|exact HB.1|apply below_alloc|apply pw_below_drewN|apply below_drew1)|exact HB.1)⟩
          · rw [if_neg c11] at H
            exact absurd H (by simp)
        · rw [if_neg c10] at H
          exact absurd H (by simp)
      · rw [if_neg c9] at H
        exact absurd H (by simp)
    · rw [if_neg c8] at H
      exact absurd H (by simp)
  · rw [if_neg c6] at H
    have c6b0:(t376==0)=false:=beq_eq_false_iff_ne.mpr c6;have c6b1:(t376 !=0)=true:=bne_iff_ne.mpr c6;simp only [Option.some.injEq,Prod.mk.injEq] at H;obtain⟨rfl,rfl⟩:=H;go_enter Try.func46,Try.ntmps46;go_wp2_with (first|((with_reducible refine gate_dst (N:=15) rfl ?_);refine Kd.R_lit (Kd.int .i64) _ 2 ?hg (N:=15) ?hd (xs:=([a2,a3]:List Int)) (inner:=[.int .i64 a2,.int .i64 a3]) (ok:=fun _=>True) (okp:=fun _=>True) ?hr ?hp (fun _ hk=>hk) trivial (Below.refl _ _) (Nat.le_refl _) (by simp) ?_;(case hd=>rfl);(case hg=>rfl);(case hr=>first|(go_simp;done)|(go_simp;rfl));(case hp=>exact(Reps.one (show Kd.M (Kd.int .i64) _ _ _ a2 [.int .i64 a2] from rfl) (Reps.one (show Kd.M (Kd.int .i64) _ _ _ a3 [.int .i64 a3] from rfl) (Reps.none _ _))));intro v374 w17 ho18 hb hg_ hnew_;clear hg_ hnew_;(first|rw [← Ny373.1] at ho18|(simp only [Int.reduceToNat] at ho18;rw [← Ny373.1] at ho18));have n0_:=qAm (Kd.R_lower ho18 (below_size qB23));have n1_:=qAm (below_step qB23 hb);clear HB;have HO375:=n0_;have HB:=n1_;clear n0_ n1_;clear hb ho18;obtain⟨Ao19,co19,eo19⟩:=Kd.R_slice HO375.1;subst eo19)|((with_reducible refine gate_callee (f:=79) rfl ?_);refine goesL_ (some 16) rfl rfl Try.func79 (by kernel_rfl) rfl #[.int .i64 a0,.int .i64 a1,.slice Ao19 y373.length co19] rfl qB19 ?_;(with_reducible refine(spec_l06Code.calls k a0 a1 _ _ y373 t376 _ ?side1 ?side2 A5.1).mono ?_);(case side1=>repeat(first|exact(Kd.R_reads' HO375.1).2.2|(with_reducible refine Kd.C_alloc ?_ _)|(with_reducible refine Kd.C_drewN ?_ _)|(with_reducible refine Kd.C_drew ?_)));(case side2=>exact(Kd.R_reads' HO375.1).2.1);rintro e w' ⟨rfl,⟨nd,rfl⟩⟩;refine⟨_,rfl,?_⟩));go_ret2;exact⟨by first|rfl|(simp [errW_none,errW_some] <;> rfl)|(simp [*,errW_none,errW_some] <;> rfl),by repeat(first|(with_reducible first|exact HB.1|apply below_alloc|apply pw_below_drewN|apply below_drew1)|exact HB.1)⟩

/-! ### impl_around: function 88 -/
def impl_around.f (a0:Int) (a1:Int):Option (Int):=if a1=0 then (none) else (some (Int.tmod (wrap64 ((Int.tmod a0 a1)+a1)) a1))
set_option maxHeartbeats 8000000 in
set_option maxRecDepth 100000 in
theorem impl_around.calls (a0:Int) (a1:Int) (r:Int) (w:World) (h:impl_around.f a0 a1=some r):
    Calls Try.prog 88 #[.int .i64 a0,.int .i64 a1] w fun e w'=>e=.returned (.int .i64 r)∧Drawn0 w w':=by
  have H:(if a1=0 then (none) else (some (Int.tmod (wrap64 ((Int.tmod a0 a1)+a1)) a1)))=some r:=h;clear h
  by_cases c3:a1=0
  · rw [if_pos c3] at H
    exact absurd H (by simp)
  · rw [if_neg c3] at H
    have c3b0:(a1==0)=false:=beq_eq_false_iff_ne.mpr c3;have c3b1:(a1 !=0)=true:=bne_iff_ne.mpr c3;obtain rfl:=Option.some.inj H;go_enter Try.func88,Try.ntmps88;go_wp2;go_ret;exact⟨by first|rfl|(simp;done)|(simp [*];done),by repeat(first|exact Drawn0.refl _|apply Drawn0.step)⟩

/-! ### impl_periods_differences: function 97 -/
mutual
def impl_periods_differences.l0:Nat→List Int→List Int→Int→Int→Int→Int→Int→List Int→Option (List Int×Int×Int×Int)
  |0,_,_,_,_,_,_,_,_=>none
  |k+1,x3,x4,x18,x19,x1000,x1001,x1002,x1003=>if x19<x18 then (if 0≤x19 then (if x19<(x4.length:Int) then (impl_periods_differences.l1 k x3 x4 (rd x4 x19) x18 x19 (x4.length:Int) 0 x1000 x1001 x1002 x1003) else (none)) else (none)) else (impl_periods_differences.l2 k x3 (x3.length:Int) 0 x1000 x1001 x1002 x1003)
def impl_periods_differences.l1:Nat→List Int→List Int→Int→Int→Int→Int→Int→Int→Int→Int→List Int→Option (List Int×Int×Int×Int)
  |0,_,_,_,_,_,_,_,_,_,_,_=>none
  |k+1,x3,x4,x6,x18,x19,x24,x25,x1000,x1001,x1002,x1003=>if x25<x24 then (if 0≤x25 then (if x25<(x4.length:Int) then (if x6=(rd x4 x25) then (impl_periods_differences.l1 k x3 x4 x6 x18 x19 x24 (wrap64 (x25+1)) x1000 x1001 x1002 x1003) else ((impl_around.f (wrap64 (x6 - (rd x4 x25))) x1000).bind fun t393=>(if 0≤t393 then (if t393<(x1003.length:Int) then (if 0≤(rd x1003 t393) then (if (rd x1003 t393)<(x3.length:Int) then (impl_periods_differences.l1 k (x3.set ((rd x1003 t393):Int).toNat (wrap64 ((rd x3 (rd x1003 t393))+1))) x4 x6 x18 x19 x24 (wrap64 (x25+1)) x1000 x1001 x1002 x1003) else (none)) else (none)) else (none)) else (none)))) else (none)) else (none)) else (impl_periods_differences.l0 k x3 x4 x18 (wrap64 (x19+1)) x1000 x1001 x1002 x1003)
def impl_periods_differences.l2:Nat→List Int→Int→Int→Int→Int→Int→List Int→Option (List Int×Int×Int×Int)
  |0,_,_,_,_,_,_,_=>none
  |k+1,x3,x54,x55,x1000,x1001,x1002,x1003=>if x55<x54 then (if 0≤x55 then (if x55<(x3.length:Int) then (if x1002=0 then (none) else (impl_periods_differences.l2 k (x3.set (x55:Int).toNat (wrap64 (Int.tdiv (rd x3 x55) x1002))) x54 (wrap64 (x55+1)) x1000 x1001 x1002 x1003)) else (none)) else (none)) else (some (x3,x1000,x1001,x1002))
end
def impl_periods_differences.f (k:Nat) (s0_0:Int) (s0_1:Int) (s0_2:Int) (s0_3:List Int):Option (List Int×Int×Int×Int):=if 0≤s0_1 then (if (s0_1:Int).toNat≤35184372088832 then ((impl_periods_members.f k s0_0 s0_1 s0_2 s0_3 0).bind fun bt385=>(impl_periods_differences.l0 k (List.replicate (s0_1:Int).toNat 0) bt385.1 (bt385.1.length:Int) 0 bt385.2.1 bt385.2.2.1 bt385.2.2.2 s0_3)) else (none)) else (none)
theorem impl_periods_differences.mono_l:∀k,(∀y0 y1 y2 y3 y4 y5 y6 y7,LeO (impl_periods_differences.l0 k y0 y1 y2 y3 y4 y5 y6 y7) (impl_periods_differences.l0 (k+1) y0 y1 y2 y3 y4 y5 y6 y7))∧(∀y0 y1 y2 y3 y4 y5 y6 y7 y8 y9 y10,LeO (impl_periods_differences.l1 k y0 y1 y2 y3 y4 y5 y6 y7 y8 y9 y10) (impl_periods_differences.l1 (k+1) y0 y1 y2 y3 y4 y5 y6 y7 y8 y9 y10))∧(∀y0 y1 y2 y3 y4 y5 y6,LeO (impl_periods_differences.l2 k y0 y1 y2 y3 y4 y5 y6) (impl_periods_differences.l2 (k+1) y0 y1 y2 y3 y4 y5 y6))
  |0=>⟨fun _ _ _ _ _ _ _ _ r h=>by simp [impl_periods_differences.l0] at h,fun _ _ _ _ _ _ _ _ _ _ _ r h=>by simp [impl_periods_differences.l1] at h,fun _ _ _ _ _ _ _ r h=>by simp [impl_periods_differences.l2] at h⟩
  |k+1=>by
    obtain⟨ih0,ih1,ih2⟩:=impl_periods_differences.mono_l k;refine⟨?_,?_,?_⟩
    · intro y0 y1 y2 y3 y4 y5 y6 y7
      unfold impl_periods_differences.l0;repeat' first
      |(with_reducible exact ih0 _ _ _ _ _ _ _ _)
      |(with_reducible exact ih1 _ _ _ _ _ _ _ _ _ _ _)
      |(with_reducible exact ih2 _ _ _ _ _ _ _)
      |(with_reducible exact impl_periods_members.mono _ _ _ _ _ _)
      |(with_reducible exact LeO.refl _)
      |(with_reducible exact LeO.none _)
      |(with_reducible refine LeO.ite ?_ ?_)
      |(with_reducible refine LeO.bind ?_ (fun _=>?_))
      |exact ih0 _ _ _ _ _ _ _ _
      |exact ih1 _ _ _ _ _ _ _ _ _ _ _
      |exact ih2 _ _ _ _ _ _ _
      |exact impl_periods_members.mono _ _ _ _ _ _
      |exact LeO.none _
      |refine LeO.ite ?_ ?_
      |refine LeO.bind ?_ (fun _=>?_)
    · intro y0 y1 y2 y3 y4 y5 y6 y7 y8 y9 y10
      unfold impl_periods_differences.l1;repeat' first
      |(with_reducible exact ih0 _ _ _ _ _ _ _ _)
      |(with_reducible exact ih1 _ _ _ _ _ _ _ _ _ _ _)
      |(with_reducible exact ih2 _ _ _ _ _ _ _)
      |(with_reducible exact impl_periods_members.mono _ _ _ _ _ _)
      |(with_reducible exact LeO.refl _)
      |(with_reducible exact LeO.none _)
      |(with_reducible refine LeO.ite ?_ ?_)
      |(with_reducible refine LeO.bind ?_ (fun _=>?_))
      |exact ih0 _ _ _ _ _ _ _ _
      |exact ih1 _ _ _ _ _ _ _ _ _ _ _
      |exact ih2 _ _ _ _ _ _ _
      |exact impl_periods_members.mono _ _ _ _ _ _
      |exact LeO.none _
      |refine LeO.ite ?_ ?_
      |refine LeO.bind ?_ (fun _=>?_)
    · intro y0 y1 y2 y3 y4 y5 y6
      unfold impl_periods_differences.l2;repeat' first
      |(with_reducible exact ih0 _ _ _ _ _ _ _ _)
      |(with_reducible exact ih1 _ _ _ _ _ _ _ _ _ _ _)
      |(with_reducible exact ih2 _ _ _ _ _ _ _)
      |(with_reducible exact impl_periods_members.mono _ _ _ _ _ _)
      |(with_reducible exact LeO.refl _)
      |(with_reducible exact LeO.none _)
      |(with_reducible refine LeO.ite ?_ ?_)
      |(with_reducible refine LeO.bind ?_ (fun _=>?_))
      |exact ih0 _ _ _ _ _ _ _ _
      |exact ih1 _ _ _ _ _ _ _ _ _ _ _
      |exact ih2 _ _ _ _ _ _ _
      |exact impl_periods_members.mono _ _ _ _ _ _
      |exact LeO.none _
      |refine LeO.ite ?_ ?_
      |refine LeO.bind ?_ (fun _=>?_)
theorem impl_periods_differences.mono:∀a0 a1 a2 a3 k,LeO (impl_periods_differences.f k a0 a1 a2 a3) (impl_periods_differences.f (k+1) a0 a1 a2 a3):=by
  intro a0 a1 a2 a3 k;obtain⟨ih0,ih1,ih2⟩:=impl_periods_differences.mono_l k;unfold impl_periods_differences.f;repeat' first
      |(with_reducible exact ih0 _ _ _ _ _ _ _ _)
      |(with_reducible exact ih1 _ _ _ _ _ _ _ _ _ _ _)
      |(with_reducible exact ih2 _ _ _ _ _ _ _)
      |(with_reducible exact impl_periods_members.mono _ _ _ _ _ _)
      |(with_reducible exact LeO.refl _)
      |(with_reducible exact LeO.none _)
      |(with_reducible refine LeO.ite ?_ ?_)
      |(with_reducible refine LeO.bind ?_ (fun _=>?_))
      |exact ih0 _ _ _ _ _ _ _ _
      |exact ih1 _ _ _ _ _ _ _ _ _ _ _
      |exact ih2 _ _ _ _ _ _ _
      |exact impl_periods_members.mono _ _ _ _ _ _
      |exact LeO.none _
      |refine LeO.ite ?_ ?_
      |refine LeO.bind ?_ (fun _=>?_)
set_option maxHeartbeats 8000000 in
set_option maxRecDepth 100000 in
theorem impl_periods_differences.calls (k:Nat) (g:Nat) (s0_0:Int) (s0_1:Int) (s0_2:Int) (s0_3:List Int) (r1:List Int) (r2:Int) (r3:Int) (r4:Int) (w0 w:World) (hI:IsS97 w0 w g s0_0 s0_1 s0_2 s0_3) (hB:Below w0.heap.size w0 w) (h:impl_periods_differences.f k s0_0 s0_1 s0_2 s0_3=some (r1,r2,r3,r4)):
    Calls Try.prog 97 #[.pointer (some ⟨g,0,none⟩)] w fun e w'=>∃v0_:Value,e=.returned (v0_)∧Kd.R (Kd.int .i64) 2 w' w.heap.size (fun _=>True) v0_ r1∧IsS97 w0 w' g r2 r3 r4 s0_3∧Below w0.heap.size w0 w'∧HKeep w w' g none:=by
  have HI0:=qAm hI;have HK:=qAm (HKeep.refl w g none);have HL:=qAm hB.size;clear hI;have HW0:=qAm hB.size;have HB:=qAm hB;clear hB;have H:(if 0≤s0_1 then (if (s0_1:Int).toNat≤35184372088832 then ((impl_periods_members.f k s0_0 s0_1 s0_2 s0_3 0).bind fun bt385=>(impl_periods_differences.l0 k (List.replicate (s0_1:Int).toNat 0) bt385.1 (bt385.1.length:Int) 0 bt385.2.1 bt385.2.2.1 bt385.2.2.2 s0_3)) else (none)) else (none))=some (r1,r2,r3,r4):=h;clear h
  by_cases c2:0≤s0_1
  · rw [if_pos c2] at H
    have c2b0:=eq_true c2;have c2b1:decide (0≤s0_1)=true:=decide_eq_true c2;clear c2
    by_cases c3:(s0_1:Int).toNat≤35184372088832
    · rw [if_pos c3] at H
      have c3b0:=eq_true c3;have c3b1:decide ((s0_1:Int).toNat≤35184372088832)=true:=decide_eq_true c3;clear c3;obtain⟨y382,hy382⟩:∃y_:List Int,y_=(List.replicate (s0_1:Int).toNat 0):=⟨_,rfl⟩
      replace H:((impl_periods_members.f k s0_0 s0_1 s0_2 s0_3 0).bind fun bt385=>(impl_periods_differences.l0 k y382 bt385.1 (bt385.1.length:Int) 0 bt385.2.1 bt385.2.2.1 bt385.2.2.2 s0_3))=some (r1,r2,r3,r4):=by first|(rw [hy382];with_reducible exact H)|(have H2_:=(Option.bind_some _ _).symm.trans H;rw [hy382];with_reducible exact H2_)|(have H2_:=(Option.bind_some _ _).symm.trans H;with_reducible exact H2_)|with_reducible exact H|(rw [hy382];exact H)|exact H
      have Ny382:=qAm hy382;clear hy382;replace H:=qOb H;obtain⟨⟨t385,t388,t389,t390⟩,A40,H⟩:=H;replace H:(impl_periods_differences.l0 k y382 t385 (t385.length:Int) 0 t388 t389 t390 s0_3)=some (r1,r2,r3,r4):=H;have A4:=qAm A40;clear A40;have H':=qAm H;clear H;obtain⟨ASz5_3,cSz5_3,HGz5,hgz5,HSz5_3⟩:=HI0.1;have hcz5_0:=cellS97_0 HGz5;have hcz5_1:=cellS97_1 HGz5;have hcz5_2:=cellS97_2 HGz5;have hcz5_3:=cellS97_3 HGz5;have hfz5_0:=blk_frozen HGz5 0;have hfz5_1:=blk_frozen HGz5 1;have hfz5_2:=blk_frozen HGz5 2;clear HGz5 hgz5;go_enter Try.func97,Try.ntmps97;go_wp2_with (first|((with_reducible refine gate_dst (N:=14) rfl ?_);refine Kd.R_make (Kd.int .i64) _ 2 rfl (N:=14) rfl 22 _ _ rfl s0_1 rfl rfl Try.underlying22 (.int .i64 0) 8 info2 rfl (by decide) (by omega) 0 (ok:=fun _=>True) (okp:=fun _=>True) rfl (fun _ hk=>hk) trivial (of_decide_eq_true qB56) (Nat.le_trans (Nat.mul_le_mul_right _ (of_decide_eq_true qB56:s0_1.toNat≤35184372088832)) (by omega)) (Below.refl _ _) (Nat.le_refl _) ?_;intro v383 w6 ho7 hb hg_ hnew_;clear hg_ hnew_;(first|rw [← Ny382.1] at ho7|(simp only [Int.reduceToNat] at ho7;rw [← Ny382.1] at ho7));have n0_:=qAm (Kd.R_lower ho7 (hka_size (w:=w) (g:=g) (row:=none) qB26));have n1_:=qAm (IsS97.below qB9 hb);have n2_:=qAm (HKeep.trans qB26 (HKeep.of_below hb g none) (.inl rfl));have n3_:=qAm (below_step qB12 hb);clear HI0;clear HK;clear HB;have HO384:=n0_;have HI0:=n1_;have HK:=n2_;have HB:=n3_;clear n0_ n1_ n2_ n3_;clear hb ho7)|((with_reducible refine gate_callee (f:=96) rfl ?_);refine goesL_ (some 16) rfl rfl Try.func96 (by kernel_rfl) rfl #[.pointer (some ⟨g,0,none⟩),.int .i64 0] rfl qB19 ?_;(with_reducible refine(impl_periods_members.calls k g s0_0 s0_1 s0_2 s0_3 0 t385 t388 t389 t390 w0 _ ?side1 ?side2 A4.1).mono ?_);(case side1=>repeat(first|(with_reducible first|exact HI0.1|apply IsS97.alloc|apply IsS97.drewN|apply IsS97.drew|apply IsS97.set_0|apply IsS97.set_1|apply IsS97.set_2)|exact HI0.1));(case side2=>repeat(first|(with_reducible first|exact HB.1|apply below_alloc|apply pw_below_drewN|apply below_drew1|refine below_set ?_ (IsS97.ge HI0.1))|exact HB.1));rintro e w8 ⟨v386,rfl,ho0,hi,hb,hk⟩;refine⟨_,rfl,?_⟩;have n0_:=qAm (Kd.R_mono (Kd.R_told (Kd.R_oldK (IsS97.apart (show IsS97 w0 _ g s0_0 s0_1 s0_2 s0_3 from by repeat(first|(with_reducible first|exact HI0.1|apply IsS97.alloc|apply IsS97.drewN|apply IsS97.drew|apply IsS97.set_0|apply IsS97.set_1|apply IsS97.set_2)|exact HI0.1)) qB39 (by decide)) hk.k) (Kd.R_base ho0)) (fun _ h_=>h_.1));have n1_:=qAm (Kd.R_lower (Kd.R_new' ho0 (Kd.R_lt qB39)) (hka_size (w:=w) (g:=g) (row:=none) qB26));have n2_:=qAm (HKeep.trans qB26 hk (.inl rfl));have n3_:=qAm (hb);have n4_:=qAm (hi);clear HO384;clear HK;clear HB;clear HI0;have HO384:=n0_;have HO387:=n1_;have HK:=n2_;have HB:=n3_;have HI0:=n4_;clear n0_ n1_ n2_ n3_ n4_;(try clear hb);(try clear hb2);(try clear hk);(try clear hi);(try clear ho0);obtain⟨Ao9,co9,eo9⟩:=Kd.R_slice HO387.1;subst eo9));try simp only [Act.put,qSa,qSc,qSb]
      go_loopg [19] k (fun kq v19 w'=>∃(x3_1:List Int) (x19_1:Int),v19=.int .i64 x19_1∧Aside0 (impl_periods_differences.l0 kq x3_1 t385 (t385.length:Int) x19_1 t388 t389 t390 s0_3=some (r1,r2,r3,r4))∧Aside0 (kq≤k)∧Aside0 (Kd.R (Kd.int .i64) 2 w' w.heap.size (fun k_=>some k_≠((.slice Ao9 t385.length co9):Value).ownBlock) v383 x3_1)∧Aside0 (Kd.R (Kd.int .i64) 2 w' w.heap.size (fun k_=>some k_≠(v383:Value).ownBlock) (.slice Ao9 t385.length co9) t385)∧Aside0 (IsS97 w0 w' g t388 t389 t390 s0_3)∧Aside0 (HKeep w w' g none)∧Aside0 (Below w0.heap.size w0 w'))
      case atStart=>exact⟨(y382),(0),qB57,H',⟨Nat.le_refl _⟩,⟨by (with_reducible repeat(first|apply Kd.R_alloc|apply Kd.R_drewN|apply Kd.R_drew));exact Kd.R_mono HO384.1 (fun _ hk=>hk.2)⟩,⟨by (with_reducible repeat(first|apply Kd.R_alloc|apply Kd.R_drewN|apply Kd.R_drew));exact Kd.R_mono HO387.1 (fun _ hk=>hk.2)⟩,⟨by repeat(first|(with_reducible first|exact HI0.1|apply IsS97.alloc|apply IsS97.drewN|apply IsS97.drew|apply IsS97.set_0|apply IsS97.set_1|apply IsS97.set_2)|exact HI0.1)⟩,⟨by repeat(first|(with_reducible first|exact HK.1|apply hka_drewN|apply hka_drew|apply hka_alloc)|exact HK.1)⟩,⟨by repeat(first|(with_reducible first|exact HB.1|apply below_alloc|apply pw_below_drewN|apply below_drew1|refine below_set ?_ (IsS97.ge HI0.1))|exact HB.1)⟩⟩
      case round=>
        clear H';try clear c2
        try clear c2b0
        try clear c2b1
        try clear p2
        try clear c3
        try clear c3b0
        try clear c3b1
        try clear c9
        try clear hcz5_0
        try clear hcz5_1
        try clear hcz5_2
        try clear hcz5_3
        try clear hfz5_0
        try clear hfz5_1
        try clear hfz5_2
        obtain⟨x3_1,x19_1,rfl,HA,HK1,HO_3,HO_4,HI0,HK,HB⟩:=hrel;cases gk with
        |zero=>exact absurd HA.1 (by simp [impl_periods_differences.l0])
        |succ k1=>
          have H:=HA.1;clear HA;simp only [impl_periods_differences.l0] at H
          by_cases c10:x19_1<(t385.length:Int)
          · rw [if_pos c10] at H
            have c10b0:decide (x19_1<(t385.length:Int))=true:=decide_eq_true c10;clear c10
            by_cases c11:0≤x19_1
            · rw [if_pos c11] at H
              have c11b0:decide (0≤x19_1)=true:=decide_eq_true c11;clear c11
              by_cases c12:x19_1<(t385.length:Int)
              · rw [if_pos c12] at H
                have c12b0:decide (x19_1<(t385.length:Int))=true:=decide_eq_true c12;clear c12;have H':=qAm H;clear H;have p391:0≤(x19_1:Int):=of_decide_eq_true qB56;have q391:x19_1<(t385.length:Int):=of_decide_eq_true qB56;obtain⟨ad391,e391,hx391_0⟩:=Kd.at_int (Kd.R_reads' HO_4.1).2.2 x19_1 p391 q391;cases e391
                replace p391:=eq_true p391;replace q391:=eq_true q391;go_wp2;try simp only [Act.put,qSa,qSc,qSb]
                go_loopg [25] k1 (fun kq v25 w'=>∃(x3_2:List Int) (x25_2:Int),v25=.int .i64 x25_2∧Aside0 (impl_periods_differences.l1 kq x3_2 t385 (rd t385 x19_1) (t385.length:Int) x19_1 (t385.length:Int) x25_2 t388 t389 t390 s0_3=some (r1,r2,r3,r4))∧Aside0 (kq≤k1)∧Aside0 (Kd.R (Kd.int .i64) 2 w' w.heap.size (fun k_=>some k_≠((.slice (some ad391) t385.length co9):Value).ownBlock) v383 x3_2)∧Aside0 (Kd.R (Kd.int .i64) 2 w' w.heap.size (fun k_=>some k_≠(v383:Value).ownBlock) (.slice (some ad391) t385.length co9) t385)∧Aside0 (IsS97 w0 w' g t388 t389 t390 s0_3)∧Aside0 (HKeep w w' g none)∧Aside0 (Below w0.heap.size w0 w'))
                case atStart=>exact⟨(x3_1),(0),qB57,H',⟨Nat.le_refl _⟩,⟨by (with_reducible repeat(first|apply Kd.R_alloc|apply Kd.R_drewN|apply Kd.R_drew));exact HO_3.1⟩,⟨by (with_reducible repeat(first|apply Kd.R_alloc|apply Kd.R_drewN|apply Kd.R_drew));exact HO_4.1⟩,⟨by repeat(first|(with_reducible first|exact HI0.1|apply IsS97.alloc|apply IsS97.drewN|apply IsS97.drew|apply IsS97.set_0|apply IsS97.set_1|apply IsS97.set_2)|exact HI0.1)⟩,⟨by repeat(first|(with_reducible first|exact HK.1|apply hka_drewN|apply hka_drew|apply hka_alloc)|exact HK.1)⟩,⟨by repeat(first|(with_reducible first|exact HB.1|apply below_alloc|apply pw_below_drewN|apply below_drew1|refine below_set ?_ (IsS97.ge HI0.1))|exact HB.1)⟩⟩
                case round=>
                  clear H';try clear c1
                  try clear c2
                  try clear c2b0
                  try clear c2b1
                  try clear p2
                  try clear c3
                  try clear c3b0
                  try clear c3b1
                  try clear p3
                  try clear q3
                  try clear hx3
                  try clear c9
                  try clear c10
                  try clear c10b0
                  try clear c11
                  try clear c11b0
                  try clear c12
                  try clear c12b0
                  try clear hcz5_0
                  try clear hcz5_1
                  try clear hcz5_2
                  try clear hcz5_3
                  try clear hfz5_0
                  try clear hfz5_1
                  try clear hfz5_2
                  try clear hx391_0
                  try clear p2
                  try clear p391
                  try clear q391
                  obtain⟨x3_2,x25_2,rfl,HA,HK2,HO_3,HO_4,HI0,HK,HB⟩:=hrel;cases gk with
                  |zero=>exact absurd HA.1 (by simp [impl_periods_differences.l1])
                  |succ k2=>
                    have H:=HA.1;clear HA;simp only [impl_periods_differences.l1] at H
                    by_cases c13:x25_2<(t385.length:Int)
                    · rw [if_pos c13] at H
                      have c13b0:decide (x25_2<(t385.length:Int))=true:=decide_eq_true c13;clear c13
                      by_cases c14:0≤x25_2
                      · rw [if_pos c14] at H
                        have c14b0:decide (0≤x25_2)=true:=decide_eq_true c14;clear c14
                        by_cases c15:x25_2<(t385.length:Int)
                        · rw [if_pos c15] at H
                          have c15b0:decide (x25_2<(t385.length:Int))=true:=decide_eq_true c15;clear c15
                          by_cases c16:(rd t385 x19_1)=(rd t385 x25_2)
                          · rw [if_pos c16] at H
                            have c16b0:((rd t385 x19_1)==(rd t385 x25_2))=true:=beq_iff_eq.mpr c16;have c16b1:((rd t385 x19_1) !=(rd t385 x25_2))=false:=bne_eq_false_iff_eq.mpr c16;clear c16;have H':=qAm H;clear H;have p392:0≤(x25_2:Int):=of_decide_eq_true qB56;have q392:x25_2<(t385.length:Int):=of_decide_eq_true qB56;obtain⟨ad392,e392,hx392_0⟩:=Kd.at_int (Kd.R_reads' HO_4.1).2.2 x25_2 p392 q392;obtain rfl:ad391=ad392:=(by injection e392)
                            replace p392:=eq_true p392;replace q392:=eq_true q392;go_wp2
                            (first|go_roundg k2|((try simp only [add_plain] at *);go_roundg k2))
                            case measure=>have:=HK1.1;have:=HK2.1;omega
                            case rel=>exact⟨(x3_2),(wrap64 (x25_2+1)),qB57,H',⟨by have:=HK1.1;have:=HK2.1;omega⟩,⟨by (with_reducible repeat(first|apply Kd.R_alloc|apply Kd.R_drewN|apply Kd.R_drew));exact HO_3.1⟩,⟨by (with_reducible repeat(first|apply Kd.R_alloc|apply Kd.R_drewN|apply Kd.R_drew));exact HO_4.1⟩,⟨by repeat(first|(with_reducible first|exact HI0.1|apply IsS97.alloc|apply IsS97.drewN|apply IsS97.drew|apply IsS97.set_0|apply IsS97.set_1|apply IsS97.set_2)|exact HI0.1)⟩,⟨by repeat(first|(with_reducible first|exact HK.1|apply hka_drewN|apply hka_drew|apply hka_alloc)|exact HK.1)⟩,⟨by repeat(first|(with_reducible first|exact HB.1|apply below_alloc|apply pw_below_drewN|apply below_drew1|refine below_set ?_ (IsS97.ge HI0.1))|exact HB.1)⟩⟩
                          · rw [if_neg c16] at H
                            have c16b0:((rd t385 x19_1)==(rd t385 x25_2))=false:=beq_eq_false_iff_ne.mpr c16;have c16b1:((rd t385 x19_1) !=(rd t385 x25_2))=true:=bne_iff_ne.mpr c16;replace H:=qOb H;obtain⟨t393,A170,H⟩:=H;replace H:(if 0≤t393 then (if t393<(s0_3.length:Int) then (if 0≤(rd s0_3 t393) then (if (rd s0_3 t393)<(x3_2.length:Int) then (impl_periods_differences.l1 k2 (x3_2.set ((rd s0_3 t393):Int).toNat (wrap64 ((rd x3_2 (rd s0_3 t393))+1))) t385 (rd t385 x19_1) (t385.length:Int) x19_1 (t385.length:Int) (wrap64 (x25_2+1)) t388 t389 t390 s0_3) else (none)) else (none)) else (none)) else (none))=some (r1,r2,r3,r4):=H;have A17:=qAm A170;clear A170
                            by_cases c18:0≤t393
                            · rw [if_pos c18] at H
                              have c18b0:decide (0≤t393)=true:=decide_eq_true c18;clear c18
                              by_cases c19:t393<(s0_3.length:Int)
                              · rw [if_pos c19] at H
                                have c19b0:decide (t393<(s0_3.length:Int))=true:=decide_eq_true c19;clear c19
                                by_cases c20:0≤(rd s0_3 t393)
                                · rw [if_pos c20] at H
                                  have c20b0:decide (0≤(rd s0_3 t393))=true:=decide_eq_true c20;clear c20
                                  by_cases c21:(rd s0_3 t393)<(x3_2.length:Int)
                                  · rw [if_pos c21] at H
                                    have c21b0:decide ((rd s0_3 t393)<(x3_2.length:Int))=true:=decide_eq_true c21;clear c21;obtain⟨y396,hy396⟩:∃y_:List Int,y_=(x3_2.set ((rd s0_3 t393):Int).toNat (wrap64 ((rd x3_2 (rd s0_3 t393))+1))):=⟨_,rfl⟩
                                    replace H:(impl_periods_differences.l1 k2 y396 t385 (rd t385 x19_1) (t385.length:Int) x19_1 (t385.length:Int) (wrap64 (x25_2+1)) t388 t389 t390 s0_3)=some (r1,r2,r3,r4):=by first|(rw [hy396];with_reducible exact H)|(have H2_:=(Option.bind_some _ _).symm.trans H;rw [hy396];with_reducible exact H2_)|(have H2_:=(Option.bind_some _ _).symm.trans H;with_reducible exact H2_)|with_reducible exact H|(rw [hy396];exact H)|exact H
                                    have Ny396:=qAm hy396;clear hy396;have H':=qAm H;clear H;have p392:0≤(x25_2:Int):=of_decide_eq_true qB56;have q392:x25_2<(t385.length:Int):=of_decide_eq_true qB56;obtain⟨ad392,e392,hx392_0⟩:=Kd.at_int (Kd.R_reads' HO_4.1).2.2 x25_2 p392 q392;obtain rfl:ad391=ad392:=(by injection e392)
                                    replace p392:=eq_true p392;replace q392:=eq_true q392;obtain⟨ASz23_3,cSz23_3,HGz23,hgz23,HSz23_3⟩:=HI0.1;have hcz23_0:=cellS97_0 HGz23;have hcz23_1:=cellS97_1 HGz23;have hcz23_2:=cellS97_2 HGz23;have hcz23_3:=cellS97_3 HGz23;have hfz23_0:=blk_frozen HGz23 0;have hfz23_1:=blk_frozen HGz23 1;have hfz23_2:=blk_frozen HGz23 2;clear HGz23 hgz23;go_wp2_with fail;have p394:0≤(t393:Int):=of_decide_eq_true qB56;have q394:t393<(s0_3.length:Int):=of_decide_eq_true qB56;obtain⟨ad394,e394,hx394_0⟩:=Kd.at_int HSz23_3 t393 p394 q394;cases e394
                                    replace hx394_0:=pw_cell_below HB.1 hx394_0;replace p394:=eq_true p394;replace q394:=eq_true q394;obtain⟨Ao24,co24,eo24⟩:=Kd.R_slice HO_3.1;subst eo24;have p395:0≤((rd s0_3 t393):Int):=of_decide_eq_true qB56;have q395:(rd s0_3 t393)<(x3_2.length:Int):=of_decide_eq_true qB56;obtain⟨ad395,e395,hx395_0⟩:=Kd.at_int (Kd.R_reads' HO_3.1).2.2 (rd s0_3 t393) p395 q395;cases e395
                                    replace p395:=eq_true p395;replace q395:=eq_true q395;have p22:0≤((rd s0_3 t393):Int):=of_decide_eq_true qB56;have q22:((rd s0_3 t393):Int)<((x3_2.length:Int):Int):=of_decide_eq_true qB56;obtain⟨go22,co22,eo22,gb22,gl22,cl22,HG22⟩:=Kd.R_form HO_3.1 (by omega)
                                    (first|cases eo22|(injection eo22 with ea_ en_ ec_;(first|subst ea_|(injection ea_ with ea_;subst ea_));subst ec_;clear en_))
                                    have GB22:=qAm gb22;have GG22:=qAm HG22;clear gb22 gl22 HG22
                                    (first|simp only [add_plain] at hx395_0|skip)
                                    obtain⟨hx22_0,hf22_0⟩:=Kd.R_celln 0 HO_3.1 ((rd s0_3 t393):Int) p22 q22;replace p22:=eq_true p22;replace q22:=eq_true q22;obtain⟨hy25_,hz25_⟩:=Kd.R_celln 0 HO_3.1 ((rd s0_3 t393):Int) (of_decide_eq_true qB56) (of_decide_eq_true qB56);have HP25:=Kd.R_putg HO_3.1 ((rd s0_3 t393):Int) (wrap64 ((rd x3_2 (rd s0_3 t393))+1));go_region_with (first|(go_at_call 88;(try simp only [i64_w]);(with_reducible refine(impl_around.calls (wrap64 ((rd t385 x19_1) - (rd t385 x25_2))) t388 t393 _ A17.1).mono ?_);rintro e w' ⟨rfl,⟨nd,rfl⟩⟩))
                                    all_goals
                                      (try simp only [i64_w])
                                      (try simp only [hand_drewN_set,hand_drew_set])
                                      obtain⟨w26,hw⟩:∃w_:World,w_=(wr.setCell ⟨go22,((rd s0_3 t393):Int).toNat,none⟩ (.int .i64 (wrap64 ((rd x3_2 (rd s0_3 t393))+1)))):=⟨_,rfl⟩
                                      rw [← hw];have hg:wr.grownBy w26 (some go22):=(by rw [hw];exact HP25.2)
                                      have hp_:Kd.R (Kd.int .i64) 2 w26 w.heap.size (fun k_=>some k_≠(.slice (some ad391) t385.length co9:Value).ownBlock) (.slice (some ⟨go22,0,none⟩) x3_2.length co24) y396:=(by rw [hw,Ny396.1];exact HP25.1)
                                      clear HP25;have n0_:=qAm (hp_);have n1_:=qAm (Kd.R_after (v:=(.slice (some ⟨go22,0,none⟩) x3_2.length co24)) (v1:=(.slice (some ⟨go22,0,none⟩) x3_2.length co24)) (ok:=(fun _=>True)) (by (with_reducible repeat(first|apply Kd.R_alloc|apply Kd.R_drewN|apply Kd.R_drew));exact Kd.R_mono HO_4.1 (fun _ hk=>⟨trivial,hk⟩)) hg (.inl rfl));have n2_:=qAm (IsS97.grown qB9 hg (IsS97.own_ne HI0.1 HO_3.1 (by decide)));have n3_:=qAm ((by rw [hw];exact below_set (HB.1) (Nat.le_trans HL.1 GB22.1):Below w0.heap.size w0 w26));have n4_:=qAm (HKeep.trans qB26 (HKeep.of_grown hg g) (Kd.R_base2 HO_3.1));clear HO_3 HO_4 HI0 HB HK;have HO_3:=n0_;have HO_4:=n1_;have HI0:=n2_;have HB:=n3_;have HK:=n4_;clear n0_ n1_ n2_ n3_ n4_ hg hw hp_;go_wp2
                                      (first|go_roundg k2|((try simp only [add_plain] at *);go_roundg k2))
                                      case measure=>have:=HK1.1;have:=HK2.1;omega
                                      case rel=>exact⟨(y396),(wrap64 (x25_2+1)),qB57,H',⟨by have:=HK1.1;have:=HK2.1;omega⟩,⟨by (with_reducible repeat(first|apply Kd.R_alloc|apply Kd.R_drewN|apply Kd.R_drew));exact HO_3.1⟩,⟨by (with_reducible repeat(first|apply Kd.R_alloc|apply Kd.R_drewN|apply Kd.R_drew));exact Kd.R_mono HO_4.1 (fun _ hk=>hk.2)⟩,⟨by repeat(first|(with_reducible first|exact HI0.1|apply IsS97.alloc|apply IsS97.drewN|apply IsS97.drew|apply IsS97.set_0|apply IsS97.set_1|apply IsS97.set_2)|exact HI0.1)⟩,⟨by repeat(first|(with_reducible first|exact HK.1|apply hka_drewN|apply hka_drew|apply hka_alloc)|exact HK.1)⟩,⟨by repeat(first|(with_reducible first|exact HB.1|apply below_alloc|apply pw_below_drewN|apply below_drew1|refine below_set ?_ (IsS97.ge HI0.1))|exact HB.1)⟩⟩
                                  · rw [if_neg c21] at H
                                    exact absurd H (by simp)
                                · rw [if_neg c20] at H
                                  exact absurd H (by simp)
                              · rw [if_neg c19] at H
                                exact absurd H (by simp)
                            · rw [if_neg c18] at H
                              exact absurd H (by simp)
                        · rw [if_neg c15] at H
                          exact absurd H (by simp)
                      · rw [if_neg c14] at H
                        exact absurd H (by simp)
                    · rw [if_neg c13] at H
                      have c13b0:decide (x25_2<(t385.length:Int))=false:=decide_eq_false c13;clear c13;have H':=qAm H;clear H;go_wp2
                      (first|go_roundg k2|((try simp only [add_plain] at *);go_roundg k2))
                      case measure=>have:=HK1.1;have:=HK2.1;omega
                      case rel=>exact⟨(x3_2),(wrap64 (x19_1+1)),qB57,H',⟨by have:=HK1.1;have:=HK2.1;omega⟩,⟨by (with_reducible repeat(first|apply Kd.R_alloc|apply Kd.R_drewN|apply Kd.R_drew));exact HO_3.1⟩,⟨by (with_reducible repeat(first|apply Kd.R_alloc|apply Kd.R_drewN|apply Kd.R_drew));exact HO_4.1⟩,⟨by repeat(first|(with_reducible first|exact HI0.1|apply IsS97.alloc|apply IsS97.drewN|apply IsS97.drew|apply IsS97.set_0|apply IsS97.set_1|apply IsS97.set_2)|exact HI0.1)⟩,⟨by repeat(first|(with_reducible first|exact HK.1|apply hka_drewN|apply hka_drew|apply hka_alloc)|exact HK.1)⟩,⟨by repeat(first|(with_reducible first|exact HB.1|apply below_alloc|apply pw_below_drewN|apply below_drew1|refine below_set ?_ (IsS97.ge HI0.1))|exact HB.1)⟩⟩
              · rw [if_neg c12] at H
                exact absurd H (by simp)
            · rw [if_neg c11] at H
              exact absurd H (by simp)
          · rw [if_neg c10] at H
            have c10b0:decide (x19_1<(t385.length:Int))=false:=decide_eq_false c10;clear c10;have H':=qAm H;clear H;obtain⟨Ao27,co27,eo27⟩:=Kd.R_slice HO_3.1;subst eo27;go_wp2;try simp only [Act.put,qSa,qSc,qSb]
            go_loopg [55] k1 (fun kq v55 w'=>∃(x3_2:List Int) (x55_2:Int),v55=.int .i64 x55_2∧Aside0 (impl_periods_differences.l2 kq x3_2 (x3_1.length:Int) x55_2 t388 t389 t390 s0_3=some (r1,r2,r3,r4))∧Aside0 (kq≤k1)∧Aside0 (Kd.R (Kd.int .i64) 2 w' w.heap.size (fun _=>True) (.slice Ao27 x3_1.length co27) x3_2)∧Aside0 (IsS97 w0 w' g t388 t389 t390 s0_3)∧Aside0 (HKeep w w' g none)∧Aside0 (Below w0.heap.size w0 w'))
            case atStart=>exact⟨(x3_1),(0),qB57,H',⟨Nat.le_refl _⟩,⟨by (with_reducible repeat(first|apply Kd.R_alloc|apply Kd.R_drewN|apply Kd.R_drew));exact Kd.R_mono HO_3.1 (fun _ hk=>trivial)⟩,⟨by repeat(first|(with_reducible first|exact HI0.1|apply IsS97.alloc|apply IsS97.drewN|apply IsS97.drew|apply IsS97.set_0|apply IsS97.set_1|apply IsS97.set_2)|exact HI0.1)⟩,⟨by repeat(first|(with_reducible first|exact HK.1|apply hka_drewN|apply hka_drew|apply hka_alloc)|exact HK.1)⟩,⟨by repeat(first|(with_reducible first|exact HB.1|apply below_alloc|apply pw_below_drewN|apply below_drew1|refine below_set ?_ (IsS97.ge HI0.1))|exact HB.1)⟩⟩
            case round=>
              clear H';try clear c1
              try clear c2
              try clear c2b0
              try clear c2b1
              try clear p2
              try clear q2
              try clear hx2
              try clear hf2
              try clear c3
              try clear c3b0
              try clear c3b1
              try clear p3
              try clear q3
              try clear hx3
              try clear p6
              try clear c8
              try clear c9
              try clear c10
              try clear c10b0
              try clear c11
              try clear c11b0
              try clear c12
              try clear c12b0
              try clear c13
              try clear c13b0
              try clear c14
              try clear c14b0
              try clear c15
              try clear c15b0
              try clear c16
              try clear c16b0
              try clear c16b1
              try clear c18
              try clear c18b0
              try clear c19
              try clear c19b0
              try clear c20
              try clear c20b0
              try clear c21
              try clear c21b0
              try clear p22
              try clear q22
              try clear hx22
              try clear hf22
              try clear hcz23_0
              try clear hcz23_1
              try clear hcz23_2
              try clear hcz23_3
              try clear hcz5_0
              try clear hcz5_1
              try clear hcz5_2
              try clear hcz5_3
              try clear hfz23_0
              try clear hfz23_1
              try clear hfz23_2
              try clear hfz5_0
              try clear hfz5_1
              try clear hfz5_2
              try clear hx22_0
              try clear hx391_0
              try clear hx392_0
              try clear hx394_0
              try clear hx395_0
              try clear p2
              try clear p22
              try clear p3
              try clear p391
              try clear p392
              try clear p394
              try clear p395
              try clear q22
              try clear q3
              try clear q391
              try clear q392
              try clear q394
              try clear q395
              obtain⟨x3_2,x55_2,rfl,HA,HK2,HO_3,HI0,HK,HB⟩:=hrel;have hl3_2:=(Kd.R_reads' HO_3.1).1;rw [hl3_2] at HO_3
              (try simp only [hl3_2])
              cases gk with
              |zero=>exact absurd HA.1 (by simp [impl_periods_differences.l2])
              |succ k2=>
                have H:=HA.1;clear HA;simp only [impl_periods_differences.l2] at H
                by_cases c28:x55_2<(x3_1.length:Int)
                · rw [if_pos c28] at H
                  have c28b0:decide (x55_2<(x3_1.length:Int))=true:=decide_eq_true c28;clear c28
                  by_cases c29:0≤x55_2
                  · rw [if_pos c29] at H
                    have c29b0:decide (0≤x55_2)=true:=decide_eq_true c29;clear c29
                    by_cases c30:x55_2<(x3_2.length:Int)
                    · rw [if_pos c30] at H
                      have c30b0:decide (x55_2<(x3_2.length:Int))=true:=decide_eq_true c30;clear c30
                      by_cases c31:t390=0
                      · rw [if_pos c31] at H
                        exact absurd H (by simp)
                      · rw [if_neg c31] at H
                        have c31b0:(t390==0)=false:=beq_eq_false_iff_ne.mpr c31;have c31b1:(t390 !=0)=true:=bne_iff_ne.mpr c31;obtain⟨y398,hy398⟩:∃y_:List Int,y_=(x3_2.set (x55_2:Int).toNat (wrap64 (Int.tdiv (rd x3_2 x55_2) t390))):=⟨_,rfl⟩
                        replace H:(impl_periods_differences.l2 k2 y398 (x3_1.length:Int) (wrap64 (x55_2+1)) t388 t389 t390 s0_3)=some (r1,r2,r3,r4):=by first|(rw [hy398];with_reducible exact H)|(have H2_:=(Option.bind_some _ _).symm.trans H;rw [hy398];with_reducible exact H2_)|(have H2_:=(Option.bind_some _ _).symm.trans H;with_reducible exact H2_)|with_reducible exact H|(rw [hy398];exact H)|exact H
                        have Ny398:=qAm hy398;clear hy398;have H':=qAm H;clear H;have p397:0≤(x55_2:Int):=of_decide_eq_true qB56;have q397:x55_2<(x3_2.length:Int):=of_decide_eq_true qB56;obtain⟨ad397,e397,hx397_0⟩:=Kd.at_int (Kd.R_reads' HO_3.1).2.2 x55_2 p397 q397;cases e397
                        replace p397:=eq_true p397;replace q397:=eq_true q397;obtain⟨ASz33_3,cSz33_3,HGz33,hgz33,HSz33_3⟩:=HI0.1;have hcz33_0:=cellS97_0 HGz33;have hcz33_1:=cellS97_1 HGz33;have hcz33_2:=cellS97_2 HGz33;have hcz33_3:=cellS97_3 HGz33;have hfz33_0:=blk_frozen HGz33 0;have hfz33_1:=blk_frozen HGz33 1;have hfz33_2:=blk_frozen HGz33 2;clear HGz33 hgz33;have p32:0≤(x55_2:Int):=of_decide_eq_true qB56;have q32:(x55_2:Int)<((x3_2.length:Int):Int):=of_decide_eq_true qB56;obtain⟨go32,co32,eo32,gb32,gl32,cl32,HG32⟩:=Kd.R_form HO_3.1 (by omega)
                        (first|cases eo32|(injection eo32 with ea_ en_ ec_;(first|subst ea_|(injection ea_ with ea_;subst ea_));subst ec_;clear en_))
                        have GB32:=qAm gb32;have GG32:=qAm HG32;clear gb32 gl32 HG32
                        (first|simp only [add_plain] at hx397_0|skip)
                        obtain⟨hx32_0,hf32_0⟩:=Kd.R_celln 0 HO_3.1 (x55_2:Int) p32 q32;replace p32:=eq_true p32;replace q32:=eq_true q32;have HP34:=Kd.R_putg HO_3.1 (x55_2:Int) (wrap64 (Int.tdiv (rd x3_2 x55_2) t390));go_wp2_with fail;go_region;obtain⟨w35,hw⟩:∃w_:World,w_=(wr.setCell ⟨go32,(x55_2:Int).toNat,none⟩ (.int .i64 (wrap64 (Int.tdiv (rd x3_2 x55_2) t390)))):=⟨_,rfl⟩
                        rw [← hw];have hg:wr.grownBy w35 (some go32):=(by rw [hw];exact HP34.2)
                        have hp_:Kd.R (Kd.int .i64) 2 w35 w.heap.size (fun _=>True) (.slice (some ⟨go32,0,none⟩) x3_2.length co27) y398:=(by rw [hw,Ny398.1];exact HP34.1)
                        clear HP34;have n0_:=qAm (hp_);have n1_:=qAm (IsS97.grown qB9 hg (IsS97.own_ne HI0.1 HO_3.1 (by decide)));have n2_:=qAm ((by rw [hw];exact below_set (HB.1) (Nat.le_trans HL.1 GB32.1):Below w0.heap.size w0 w35));have n3_:=qAm (HKeep.trans qB26 (HKeep.of_grown hg g) (Kd.R_base2 HO_3.1));clear HO_3 HI0 HB HK;have HO_3:=n0_;have HI0:=n1_;have HB:=n2_;have HK:=n3_;clear n0_ n1_ n2_ n3_ hg hw hp_;go_wp2
                        (try simp only [← hl3_2])
                        (first|go_roundg k2|((try simp only [add_plain] at *);go_roundg k2))
                        case measure=>have:=HK1.1;have:=HK2.1;omega
                        case rel=>exact⟨(y398),(wrap64 (x55_2+1)),qB57,H',⟨by have:=HK1.1;have:=HK2.1;omega⟩,⟨by (try simp only [hl3_2]);(with_reducible repeat(first|apply Kd.R_alloc|apply Kd.R_drewN|apply Kd.R_drew));exact HO_3.1⟩,⟨by repeat(first|(with_reducible first|exact HI0.1|apply IsS97.alloc|apply IsS97.drewN|apply IsS97.drew|apply IsS97.set_0|apply IsS97.set_1|apply IsS97.set_2)|exact HI0.1)⟩,⟨by repeat(first|(with_reducible first|exact HK.1|apply hka_drewN|apply hka_drew|apply hka_alloc)|exact HK.1)⟩,⟨by repeat(first|(with_reducible first|exact HB.1|apply below_alloc|apply pw_below_drewN|apply below_drew1|refine below_set ?_ (IsS97.ge HI0.1))|exact HB.1)⟩⟩
                    · rw [if_neg c30] at H
                      exact absurd H (by simp)
                  · rw [if_neg c29] at H
                    exact absurd H (by simp)
                · rw [if_neg c28] at H
                  have c28b0:decide (x55_2<(x3_1.length:Int))=false:=decide_eq_false c28;have c28b0_0:=c28b0
                  (try rw [hl3_2] at c28b0_0)
                  clear c28;simp only [Option.some.injEq,Prod.mk.injEq] at H;obtain⟨rfl,rfl,rfl,rfl⟩:=H;go_wp2;go_ret;exact⟨_,by first|rfl|(simp [errW_none,errW_some] <;> rfl)|(simp [*,errW_none,errW_some] <;> rfl),by (with_reducible repeat(first|apply Kd.R_alloc|apply Kd.R_drewN|apply Kd.R_drew));exact HO_3.1,by repeat(first|(with_reducible first|exact HI0.1|apply IsS97.alloc|apply IsS97.drewN|apply IsS97.drew|apply IsS97.set_0|apply IsS97.set_1|apply IsS97.set_2)|exact HI0.1),by repeat(first|(with_reducible first|exact HB.1|apply below_alloc|apply pw_below_drewN|apply below_drew1|refine below_set ?_ (IsS97.ge HI0.1))|exact HB.1),by repeat(first|(with_reducible first|exact HK.1|apply hka_drewN|apply hka_drew|apply hka_alloc)|exact HK.1)⟩
    · rw [if_neg c3] at H
      exact absurd H (by simp)
  · rw [if_neg c2] at H
    exact absurd H (by simp)

/-! ### impl_DifferenceNumbers: function 47 -/
def impl_DifferenceNumbers.f (k:Nat) (a0:Int) (a1:Int):Option (List Int×Int):=(impl_periodsOf.f k a0 a1).bind fun b=>(if b.2.2.2.2=true then ((impl_periods_differences.f k b.1 b.2.1 b.2.2.1 b.2.2.2.1).bind fun d=>(some (d.1,0))) else (some ([],2)))
theorem impl_DifferenceNumbers.mono:∀a0 a1 k,LeO (impl_DifferenceNumbers.f k a0 a1) (impl_DifferenceNumbers.f (k+1) a0 a1):=by
  intro a0 a1 k;unfold impl_DifferenceNumbers.f;repeat' first
      |(with_reducible exact impl_periodsOf.mono _ _ _)
      |(with_reducible exact LeO.refl _)
      |(with_reducible exact LeO.none _)
      |(with_reducible refine LeO.ite ?_ ?_)
      |(with_reducible refine LeO.bind ?_ (fun _=>?_))
      |exact impl_periodsOf.mono _ _ _
      |exact impl_periods_differences.mono _ _ _ _ _
      |exact LeO.none _
      |refine LeO.ite ?_ ?_
      |refine LeO.bind ?_ (fun _=>?_)
set_option maxHeartbeats 8000000 in
set_option maxRecDepth 100000 in
-- HAND
theorem impl_DifferenceNumbers.calls (k:Nat) (a0:Int) (a1:Int) (r1:List Int) (r2:Int) (w:World) (h:impl_DifferenceNumbers.f k a0 a1=some (r1,r2)):
    Calls Try.prog 47 #[.int .i64 a0,.int .i64 a1] w fun e w'=>∃v0_:Value,e=.returned (.tuple #[v0_,.int .i64 r2])∧Kd.R (Kd.int .i64) 2 w' w.heap.size (fun _=>True) v0_ r1∧Below w.heap.size w w':=by
  have hu97:=Try.underlying97;have HB:=qAm (Below.refl w.heap.size w);unfold impl_DifferenceNumbers.f at h;obtain⟨⟨t399,t400,t401,t402,ok_⟩,A30,H⟩:=qOb h;clear h;have A3:=qAm A30;clear A30;cases ok_ with
  |true=>
    replace H:=qOb ((if_pos rfl).symm.trans H);obtain⟨⟨d1,d2,d3,d4⟩,D0,H⟩:=H;have D:=qAm D0;clear D0;simp only [Option.some.injEq,Prod.mk.injEq] at H;obtain⟨rfl,rfl⟩:=H;go_enter Try.func47,Try.ntmps47;go_wp2_with (first|((with_reducible refine gate_callee (f:=81) rfl ?_);refine goesL_ (some 11) rfl rfl Try.func81 (by kernel_rfl) rfl #[.int .i64 a0,.int .i64 a1] rfl qB19 ?_;(with_reducible refine(impl_periodsOf.calls k a0 a1 t399 t400 t401 t402 true _ A3.1).mono ?_);rintro e w5 ⟨v403,rfl,ho0,hb⟩;refine⟨_,rfl,?_⟩;have HCc:=qAm ho0;have HBc:=qAm (Below.refl w5.heap.size w5);have n0_:=qAm (Kd.R_lower ho0 (below_size qB23));have n1_:=qAm (below_step qB23 hb);clear HB;have HO404:=n0_;have HB:=n1_;clear n0_ n1_;(try clear hb);(try clear hb2);(try clear hk);(try clear hi);(try clear ho0);have HBX:=qAm HB.1)|((with_reducible refine gate_dst (N:=6) rfl ?_);refine box_event ?hg (N:=6) ?hd (cs:=#[.int .i64 0,.int .i64 0,.int .i64 0,.slice none 0 0]) (t:=97) ?hr ?_;(case hd=>rfl);(case hg=>rfl);(case hr=>first|(go_simp;done)|(go_simp;rfl));intro gb406 hg w6 hbox hb;have HGc:Aside0 (w5.heap.size≤gb406):=qAm qB24;have HBd:=qAm (below_step qB54 hb);clear HBc;have HBc:=HBd;clear HBd;have n0_:=qAm (Kd.R_below qB40 hb);have n1_:=qAm (below_step qB23 hb);have n2_:=qAm (hbox);have n3_:=qAm ((by rw [hg];exact(below_size qB23):w.heap.size≤gb406));have n4_:=qAm ((by rw [hg];exact(below_size qB23):w.heap.size≤gb406));clear HO404;clear HB;have HO404:=n0_;have HB:=n1_;have BK406:=n2_;have GW406:=n3_;have GE406:=n4_;clear n0_ n1_ n2_ n3_ n4_;clear hb hbox hg;have hcz7_0:w6.cell? ⟨gb406,0,none⟩=some (.int .i64 0):=(blk_cell BK406.1 0).trans rfl;have hcz7_1:w6.cell? ⟨gb406,1,none⟩=some (.int .i64 0):=(blk_cell BK406.1 1).trans rfl;have hcz7_2:w6.cell? ⟨gb406,2,none⟩=some (.int .i64 0):=(blk_cell BK406.1 2).trans rfl;have hcz7_3:w6.cell? ⟨gb406,3,none⟩=some (.slice none 0 0):=(blk_cell BK406.1 3).trans rfl;have hfz7_0:=blk_frozen BK406.1 0;have hfz7_1:=blk_frozen BK406.1 1;have hfz7_2:=blk_frozen BK406.1 2;have hfz7_3:=blk_frozen BK406.1 3;obtain⟨Ao8,co8,eo8⟩:=Kd.R_slice HO404.1;subst eo8)|((with_reducible refine gate_callee (f:=97) rfl ?_);refine goesL_ (some 16) rfl rfl Try.func97 (by kernel_rfl) rfl #[.pointer (some ⟨gb406,0,none⟩)] rfl qB55 ?_;(with_reducible refine(impl_periods_differences.calls k gb406 t399 t400 t401 t402 d1 d2 d3 d4 w5 _ ?side1 ?side2 D.1).mono ?_);(case side1=>exact⟨Ao8,co8,(by (with_reducible repeat(first|refine blk_drewN ?_ _|refine blk_drew ?_|refine blk_alloc ?_ _));refine blk_put (cs:=#[.int .i64 t399,.int .i64 t400,.int .i64 t401,.slice none 0 0]) ?_ 3 _ rfl;(with_reducible repeat(first|refine blk_drewN ?_ _|refine blk_drew ?_|refine blk_alloc ?_ _));refine blk_put (cs:=#[.int .i64 t399,.int .i64 t400,.int .i64 0,.slice none 0 0]) ?_ 2 _ rfl;(with_reducible repeat(first|refine blk_drewN ?_ _|refine blk_drew ?_|refine blk_alloc ?_ _));refine blk_put (cs:=#[.int .i64 t399,.int .i64 0,.int .i64 0,.slice none 0 0]) ?_ 1 _ rfl;(with_reducible repeat(first|refine blk_drewN ?_ _|refine blk_drew ?_|refine blk_alloc ?_ _));refine blk_put (cs:=#[.int .i64 0,.int .i64 0,.int .i64 0,.slice none 0 0]) ?_ 0 _ rfl;(with_reducible repeat(first|refine blk_drewN ?_ _|refine blk_drew ?_|refine blk_alloc ?_ _));exact BK406.1),HGc.1,(Kd.R_reads' HCc.1).2.2⟩);(case side2=>exact qB25);rintro e wY ⟨v408,rfl,ho1,hi1,hb1,hk1⟩;refine⟨_,rfl,?_⟩;have n0_:=qAm (Kd.R_lower ho1 (below_size (by repeat(first|exact HB.1|apply below_alloc|apply pw_below_drewN|apply below_drew1|refine below_set ?_ GE406.1))));have n1_:=qAm (below_step HBX.1 hb1);clear HB;have HO409:=n0_;have HB:=n1_;clear n0_ n1_ ho1 hi1 hb1 hk1));go_ret2;exact⟨_,by first|rfl|(simp [errW_none,errW_some] <;> rfl)|(simp [*,errW_none,errW_some] <;> rfl),by (with_reducible repeat(first|apply Kd.R_alloc|apply Kd.R_drewN|apply Kd.R_drew));exact Kd.R_mono HO409.1 (fun _ hk=>trivial),by repeat(first|(with_reducible first|exact HB.1|apply below_alloc|apply pw_below_drewN|apply below_drew1|refine below_set ?_ GE406.1)|exact HB.1)⟩
  |false=>
    replace H:=(if_neg (show ¬(false=true) by decide)).symm.trans H;simp only [Option.some.injEq,Prod.mk.injEq] at H;obtain⟨rfl,rfl⟩:=H;go_enter Try.func47,Try.ntmps47;go_wp2_with (first|((with_reducible refine gate_callee (f:=81) rfl ?_);refine goesL_ (some 11) rfl rfl Try.func81 (by kernel_rfl) rfl #[.int .i64 a0,.int .i64 a1] rfl qB19 ?_;(with_reducible refine(impl_periodsOf.calls k a0 a1 t399 t400 t401 t402 false _ A3.1).mono ?_);rintro e w11 ⟨v403,rfl,ho0,hb⟩;refine⟨_,rfl,?_⟩;have n0_:=qAm (Kd.R_lower ho0 (below_size qB23));have n1_:=qAm (below_step qB23 hb);clear HB;have HO404:=n0_;have HB:=n1_;clear n0_ n1_;(try clear hb);(try clear hb2);(try clear hk);(try clear hi);(try clear ho0))|((with_reducible refine gate_dst (N:=6) rfl ?_);refine box_event ?hg (N:=6) ?hd (cs:=#[.int .i64 0,.int .i64 0,.int .i64 0,.slice none 0 0]) (t:=97) ?hr ?_;(case hd=>rfl);(case hg=>rfl);(case hr=>first|(go_simp;done)|(go_simp;rfl));intro gb406 hg w12 hbox hb;have n0_:=qAm (Kd.R_below qB40 hb);have n1_:=qAm (below_step qB23 hb);have n2_:=qAm (hbox);have n3_:=qAm ((by rw [hg];exact(below_size qB23):w.heap.size≤gb406));have n4_:=qAm ((by rw [hg];exact(below_size qB23):w.heap.size≤gb406));clear HO404;clear HB;have HO404:=n0_;have HB:=n1_;have BK406:=n2_;have GW406:=n3_;have GE406:=n4_;clear n0_ n1_ n2_ n3_ n4_;clear hb hbox hg;have hcz13_0:w12.cell? ⟨gb406,0,none⟩=some (.int .i64 0):=(blk_cell BK406.1 0).trans rfl;have hcz13_1:w12.cell? ⟨gb406,1,none⟩=some (.int .i64 0):=(blk_cell BK406.1 1).trans rfl;have hcz13_2:w12.cell? ⟨gb406,2,none⟩=some (.int .i64 0):=(blk_cell BK406.1 2).trans rfl;have hcz13_3:w12.cell? ⟨gb406,3,none⟩=some (.slice none 0 0):=(blk_cell BK406.1 3).trans rfl;have hfz13_0:=blk_frozen BK406.1 0;have hfz13_1:=blk_frozen BK406.1 1;have hfz13_2:=blk_frozen BK406.1 2;have hfz13_3:=blk_frozen BK406.1 3;obtain⟨Ao14,co14,eo14⟩:=Kd.R_slice HO404.1;subst eo14));go_ret2;exact⟨_,by first|rfl|(simp [errW_none,errW_some] <;> rfl)|(simp [*,errW_none,errW_some] <;> rfl),by first|exact Kd.R_nil _ _ _ _ _|exact Kd.N_nil _ _ _ _ _|exact Kd.V_nil _ _ _ _ _|exact Kd.Q_nil _ _ _ _ _|exact Kd.S_nil _ _ _ _ _,by repeat(first|(with_reducible first|exact HB.1|apply below_alloc|apply pw_below_drewN|apply below_drew1|refine below_set ?_ GE406.1)|exact HB.1)⟩

end Go.Proofs.Ytefhabkikaadiaa.PFnPeriods
