/- The functions that the law reaches, as plain functions, each with the proof that the program comes to it; no condition. Written by a program of this session (wip/mp.py) over the printing of the kit; what is marked HAND is told by hand. -/
import Derived.Test.YtefhabkikaadiaaPFnPeriodsx0
import Derived.Test.YtefhabkikaadiaaPFnPeriodsx2
import Derived.Test.YtefhabkikaadiaaPFnPeriodsx4
import Derived.Test.YtefhabkikaadiaaPFnPeriodsx7
import Derived.Test.YtefhabkikaadiaaPFnPeriodsx8
namespace Go.Proofs.Ytefhabkikaadiaa.PFnPeriods
open Go.RowKit Go.Proofs.YtefhabkikaadiaaW.PrintWords Go.Proofs.YtefhabkikaadiaaW.PrintLast Go.Proofs.YtefhabkikaadiaaW.PrintMore
attribute [local go_sem] max2_int min2_int max_two min_two max_three min_three max_four min_four   -- for this text's walks alone
set_option linter.unusedVariables false
set_option linter.unusedSimpArgs false

/-! ### impl_IsDifferenceClass: function 49 -/
-- HAND
theorem impl_pdiffs_cell (W:World) (g:Nat) (a:Addr) (h:a.block<g):({ W with heap:=W.heap.extract 0 g }:World).cell? a=W.cell? a:=by
  apply World.cell?_of_block
  show(W.heap.extract 0 g)[a.block]? =W.heap[a.block]?
  rw [Array.getElem?_extract]
  by_cases c:a.block<min g W.heap.size - 0
  · rw [if_pos c,Nat.zero_add]
  · rw [if_neg c]
    symm
    rw [Array.getElem?_eq_none]
    omega
theorem impl_pdiffs_here (k g cq:Nat) (p e f:Int) (cls:List Int) (r:List Int) (Aq:Option Addr) (W:World) (hG:W.heap[g]? =some (.cells #[.int .i64 p,.int .i64 e,.int .i64 f,.slice Aq cls.length cq] 97 (0,0)))
    (hU:∀k_,(.slice Aq cls.length cq:Value).ownBlock=some k_→k_<g) (hC:Kd.C (Kd.int .i64) W Aq cls.length cls)
    (h:impl_pdiffs.f k p e f cls=some r):
    Calls Try.prog 97 #[.pointer (some ⟨g,0,none⟩)] W fun e w'=>∃v0_:Value,e=.returned v0_∧Kd.R (Kd.int .i64) 2 w' W.heap.size (fun _=>True) v0_ r∧Below W.heap.size W w':=by
  unfold impl_pdiffs.f at h;obtain⟨⟨r1,d2,d3,d4⟩,h1,h2⟩:=qOb h;obtain rfl:r1=r:=Option.some.inj h2;have hlt:=blk_lt hG;have hsz:({ W with heap:=W.heap.extract 0 g }:World).heap.size=g:=by show(W.heap.extract 0 g).size=g;rw [Array.size_extract];omega
  have hB:Below ({ W with heap:=W.heap.extract 0 g }:World).heap.size { W with heap:=W.heap.extract 0 g } W:=by
    rw [hsz];refine⟨rfl,rfl,rfl,by rw [hsz];omega,fun i hi=>?_⟩
    show W.heap[i]? =(W.heap.extract 0 g)[i]?
    rw [Array.getElem?_extract,if_pos (by omega),Nat.zero_add]
  have hC0:Kd.C (Kd.int .i64) { W with heap:=W.heap.extract 0 g } Aq cls.length cls:=by
    have hR:=Kd.reads_of_C (d:=(0:Int)) hC;refine Kd.C_of_reads (d:=(0:Int)) ⟨hR.1,hR.2.1,fun hn=>?_⟩;obtain⟨ad,ea,hc⟩:=hR.2.2 hn;refine⟨ad,ea,fun j hj=>?_⟩;have hb:ad.block<g:=hU ad.block (by rw [ea];rfl);rw [impl_pdiffs_cell W g _ (by rw [add_block];exact hb)];exact hc j hj
  refine(impl_periods_differences.calls k g p e f cls r1 d2 d3 d4 _ W ⟨Aq,cq,hG,by rw [hsz];exact Nat.le_refl _,hC0⟩ hB h1).mono ?_;rintro e w' ⟨v,rfl,ho,hiS,hb,hk⟩;refine⟨v,rfl,ho,⟨hb.os,hb.tape,hb.output,hk.k.1,fun i hi=>?_⟩⟩
  by_cases c:i=g
  · subst c;exact hk.b hi (by simp)
  · exact hk.k.2 i hi c (by simp)
def impl_IsDifferenceClass.l0:Nat→List Int→Int→Int→Option (Bool×Int)
  |0,_,_,_=>none
  |k+1,x8,x21,x22=>if x22<x21 then (if 0≤x22 then (if x22<(x8.length:Int) then (if 0<(x8.length:Int) then (if (rd x8 x22)=(rd x8 0) then (impl_IsDifferenceClass.l0 k x8 x21 (wrap64 (x22+1))) else (some (false,0))) else (none)) else (none)) else (none)) else (some (true,0))
def impl_IsDifferenceClass.f (k:Nat) (a0:Int) (a1:Int):Option (Bool×Int):=(impl_periodsOf.f k a0 a1).bind fun bt437=>(if bt437.2.2.2.2=true then ((impl_pdiffs.f k bt437.1 bt437.2.1 bt437.2.2.1 bt437.2.2.2.1).bind fun t445=>(impl_IsDifferenceClass.l0 k t445 (t445.length:Int) 0)) else (some (false,2)))
theorem impl_IsDifferenceClass.mono_l:∀k,(∀y0 y1 y2,LeO (impl_IsDifferenceClass.l0 k y0 y1 y2) (impl_IsDifferenceClass.l0 (k+1) y0 y1 y2))
  |0=>fun _ _ _ r h=>by simp [impl_IsDifferenceClass.l0] at h
  |k+1=>by
    have ih0:=impl_IsDifferenceClass.mono_l k
    · intro y0 y1 y2
      unfold impl_IsDifferenceClass.l0;repeat' first
      |(with_reducible exact ih0 _ _ _)
      |(with_reducible exact impl_pdiffs.mono _ _ _ _ _)
      |(with_reducible exact impl_periodsOf.mono _ _ _)
      |(with_reducible exact LeO.refl _)
      |(with_reducible exact LeO.none _)
      |(with_reducible refine LeO.ite ?_ ?_)
      |(with_reducible refine LeO.bind ?_ (fun _=>?_))
      |exact ih0 _ _ _
      |exact impl_pdiffs.mono _ _ _ _ _
      |exact impl_periodsOf.mono _ _ _
      |exact LeO.none _
      |refine LeO.ite ?_ ?_
      |refine LeO.bind ?_ (fun _=>?_)
theorem impl_IsDifferenceClass.mono:∀a0 a1 k,LeO (impl_IsDifferenceClass.f k a0 a1) (impl_IsDifferenceClass.f (k+1) a0 a1):=by
  intro a0 a1 k;have ih0:=impl_IsDifferenceClass.mono_l k;unfold impl_IsDifferenceClass.f;repeat' first
      |(with_reducible exact ih0 _ _ _)
      |(with_reducible exact impl_pdiffs.mono _ _ _ _ _)
      |(with_reducible exact impl_periodsOf.mono _ _ _)
      |(with_reducible exact LeO.refl _)
      |(with_reducible exact LeO.none _)
      |(with_reducible refine LeO.ite ?_ ?_)
      |(with_reducible refine LeO.bind ?_ (fun _=>?_))
      |exact ih0 _ _ _
      |exact impl_pdiffs.mono _ _ _ _ _
      |exact impl_periodsOf.mono _ _ _
      |exact LeO.none _
      |refine LeO.ite ?_ ?_
      |refine LeO.bind ?_ (fun _=>?_)
set_option maxHeartbeats 8000000 in
set_option maxRecDepth 100000 in
theorem impl_IsDifferenceClass.calls (k:Nat) (a0:Int) (a1:Int) (r1:Bool) (r2:Int) (w:World) (h:impl_IsDifferenceClass.f k a0 a1=some (r1,r2)):
    Calls Try.prog 49 #[.int .i64 a0,.int .i64 a1] w fun e w'=>e=.returned (.tuple #[.bool r1,.int .i64 r2])∧Below w.heap.size w w':=by
  have hu97:=Try.underlying97;have HB:=qAm (Below.refl w.heap.size w);have H:((impl_periodsOf.f k a0 a1).bind fun bt437=>(if bt437.2.2.2.2=true then ((impl_pdiffs.f k bt437.1 bt437.2.1 bt437.2.2.1 bt437.2.2.2.1).bind fun t445=>(impl_IsDifferenceClass.l0 k t445 (t445.length:Int) 0)) else (some (false,2))))=some (r1,r2):=h;clear h;replace H:=qOb H;obtain⟨⟨t437,t438,t439,t440,t443⟩,A30,H⟩:=H;replace H:(if t443=true then ((impl_pdiffs.f k t437 t438 t439 t440).bind fun t445=>(impl_IsDifferenceClass.l0 k t445 (t445.length:Int) 0)) else (some (false,2)))=some (r1,r2):=H;have A3:=qAm A30;clear A30
  by_cases c4:t443=true
  · subst c4
    have H1:((impl_pdiffs.f k t437 t438 t439 t440).bind fun t445=>(impl_IsDifferenceClass.l0 k t445 (t445.length:Int) 0))=some (r1,r2):=by rw [if_pos rfl] at H;exact H
    clear H;have H:=H1;clear H1;replace H:=qOb H;obtain⟨t445,A50,H⟩:=H;replace H:(impl_IsDifferenceClass.l0 k t445 (t445.length:Int) 0)=some (r1,r2):=H;have A5:=qAm A50;clear A50;have H':=qAm H;clear H;go_enter Try.func49,Try.ntmps49;go_wp2_with (first|((with_reducible refine gate_callee (f:=81) rfl ?_);refine goesL_ (some 14) rfl rfl Try.func81 (by kernel_rfl) rfl #[.int .i64 a0,.int .i64 a1] rfl qB19 ?_;(with_reducible refine(impl_periodsOf.calls k a0 a1 t437 t438 t439 t440 true _ A3.1).mono ?_);rintro e w6 ⟨v441,rfl,ho0,hb⟩;refine⟨_,rfl,?_⟩;have n0_:=qAm (Kd.R_lower ho0 (below_size qB23));have n1_:=qAm (below_step qB23 hb);clear HB;have HO442:=n0_;have HB:=n1_;clear n0_ n1_;(try clear hb);(try clear hb2);(try clear hk);(try clear hi);(try clear ho0))|((with_reducible refine gate_dst (N:=6) rfl ?_);refine box_event ?hg (N:=6) ?hd (cs:=#[.int .i64 0,.int .i64 0,.int .i64 0,.slice none 0 0]) (t:=97) ?hr ?_;(case hd=>rfl);(case hg=>rfl);(case hr=>first|(go_simp;done)|(go_simp;rfl));intro gb444 hg w7 hbox hb;have HU_:Aside0 (∀k_,(v441:Value).ownBlock=some k_→k_<gb444):=qAm (fun k_ e_=>by rw [hg];exact Kd.R_lt HO442.1 k_ e_);have n0_:=qAm (Kd.R_below qB43 hb);have n1_:=qAm (below_step qB23 hb);have n2_:=qAm (hbox);have n3_:=qAm ((by rw [hg];exact(below_size qB23):w.heap.size≤gb444));have n4_:=qAm ((by rw [hg];exact(below_size qB23):w.heap.size≤gb444));clear HO442;clear HB;have HO442:=n0_;have HB:=n1_;have BK444:=n2_;have GW444:=n3_;have GE444:=n4_;clear n0_ n1_ n2_ n3_ n4_;clear hb hbox hg;have hcz8_0:w7.cell? ⟨gb444,0,none⟩=some (.int .i64 0):=(blk_cell BK444.1 0).trans rfl;have hcz8_1:w7.cell? ⟨gb444,1,none⟩=some (.int .i64 0):=(blk_cell BK444.1 1).trans rfl;have hcz8_2:w7.cell? ⟨gb444,2,none⟩=some (.int .i64 0):=(blk_cell BK444.1 2).trans rfl;have hcz8_3:w7.cell? ⟨gb444,3,none⟩=some (.slice none 0 0):=(blk_cell BK444.1 3).trans rfl;have hfz8_0:=blk_frozen BK444.1 0;have hfz8_1:=blk_frozen BK444.1 1;have hfz8_2:=blk_frozen BK444.1 2;have hfz8_3:=blk_frozen BK444.1 3;obtain⟨Ao9,co9,eo9⟩:=Kd.R_slice HO442.1;subst eo9)|((with_reducible refine gate_callee (f:=97) rfl ?_);refine goesL_ (some 19) rfl rfl Try.func97 (by kernel_rfl) rfl #[.pointer (some ⟨gb444,0,none⟩)] rfl qB19 ?_;refine Calls.mono (impl_pdiffs_here k gb444 co9 t437 t438 t439 t440 t445 Ao9 _ ?hG_ HU_.1 ?side1 A5.1) ?_;(case hG_=>exact qB3);(case side1=>refine(Kd.R_reads' (e:=2) (base:=w.heap.size) (ok:=fun k_=>True) (n:=t440.length) (c:=co9) ?_).2.2;exact qB6);rintro e w10 ⟨v446,rfl,ho0,hb⟩;refine⟨_,rfl,?_⟩;have n0_:=qAm (Kd.R_elder' qB6 (Kd.R_base ho0) hb);have n1_:=qAm (Kd.R_lower (Kd.R_new' ho0 (Kd.R_lt qB6)) (below_size qB17));have n2_:=qAm (blk_below (g:=gb444) (o:=.cells #[.int .i64 t437,.int .i64 t438,.int .i64 t439,.slice Ao9 t440.length co9] 97 (0,0)) qB3 hb);have n3_:=qAm (below_step qB17 hb);clear HO442;clear BK444;clear HB;have HO442:=n0_;have HO447:=n1_;have BK444:=n2_;have HB:=n3_;clear n0_ n1_ n2_ n3_;(try clear hb);(try clear hb2);(try clear hk);(try clear hi);(try clear ho0);obtain⟨Ao11,co11,eo11⟩:=Kd.R_slice HO447.1;subst eo11));try simp only [Act.put,qSa,qSc,qSb]
    go_loopg [22] k (fun kq v22 w'=>∃(x22_1:Int),v22=.int .i64 x22_1∧Aside0 (impl_IsDifferenceClass.l0 kq t445 (t445.length:Int) x22_1=some (r1,r2))∧Aside0 (kq≤k)∧Aside0 (Kd.R (Kd.int .i64) 2 w' w.heap.size (fun k_=>some k_≠((.slice Ao9 t440.length co9):Value).ownBlock) (.slice Ao11 t445.length co11) t445)∧Aside0 (Kd.R (Kd.int .i64) 2 w' w.heap.size (fun k_=>some k_≠((.slice Ao11 t445.length co11):Value).ownBlock) (.slice Ao9 t440.length co9) t440)∧Aside0 (w'.heap[gb444]? =some (.cells #[.int .i64 t437,.int .i64 t438,.int .i64 t439,(.slice Ao9 t440.length co9)] 97 (0,0)))∧Aside0 (Below w.heap.size w w'))
    case atStart=>exact⟨(0),qB57,H',⟨Nat.le_refl _⟩,⟨by (with_reducible repeat(first|apply Kd.R_alloc|apply Kd.R_drewN|apply Kd.R_drew));exact Kd.R_mono HO447.1 (fun _ hk=>hk.2)⟩,⟨by (with_reducible repeat(first|apply Kd.R_alloc|apply Kd.R_drewN|apply Kd.R_drew));exact Kd.R_mono HO442.1 (fun _ hk=>hk.2)⟩,⟨by (with_reducible repeat(first|refine blk_drewN ?_ _|refine blk_drew ?_|refine blk_alloc ?_ _));exact BK444.1⟩,⟨by repeat(first|(with_reducible first|exact HB.1|apply below_alloc|apply pw_below_drewN|apply below_drew1|refine below_set ?_ GE444.1)|exact HB.1)⟩⟩
    case round=>
      clear H';try clear c1
      try clear p2
      try clear c4
      try clear c8
      try clear hcz8_0
      try clear hcz8_1
      try clear hcz8_2
      try clear hcz8_3
      try clear hfz8_0
      try clear hfz8_1
      try clear hfz8_2
      try clear hfz8_3
      obtain⟨x22_1,rfl,HA,HK1,HO_8,HO_445003,BK444,HB⟩:=hrel;cases gk with
      |zero=>exact absurd HA.1 (by simp [impl_IsDifferenceClass.l0])
      |succ k1=>
        have H:=HA.1;clear HA;simp only [impl_IsDifferenceClass.l0] at H
        by_cases c12:x22_1<(t445.length:Int)
        · rw [if_pos c12] at H
          have c12b0:decide (x22_1<(t445.length:Int))=true:=decide_eq_true c12;clear c12
          by_cases c13:0≤x22_1
          · rw [if_pos c13] at H
            have c13b0:decide (0≤x22_1)=true:=decide_eq_true c13;clear c13
            by_cases c14:x22_1<(t445.length:Int)
            · rw [if_pos c14] at H
              have c14b0:decide (x22_1<(t445.length:Int))=true:=decide_eq_true c14;clear c14
              by_cases c15:0<(t445.length:Int)
              · rw [if_pos c15] at H
                have c15b0:decide (0<(t445.length:Int))=true:=decide_eq_true c15;have c15b1:decide (0<t445.length)=true:=decide_eq_true (by omega);clear c15
                by_cases c16:(rd t445 x22_1)=(rd t445 0)
                · rw [if_pos c16] at H
                  have c16b0:((rd t445 x22_1)==(rd t445 0))=true:=beq_iff_eq.mpr c16;have c16b1:((rd t445 x22_1) !=(rd t445 0))=false:=bne_eq_false_iff_eq.mpr c16;clear c16;have H':=qAm H;clear H;have p448:0≤(x22_1:Int):=of_decide_eq_true qB56;have q448:x22_1<(t445.length:Int):=of_decide_eq_true qB56;obtain⟨ad448,e448,hx448_0⟩:=Kd.at_int (Kd.R_reads' HO_8.1).2.2 x22_1 p448 q448;cases e448
                  replace p448:=eq_true p448;replace q448:=eq_true q448;have p449:0≤(0:Int):=(by omega)
                  have q449:0<(t445.length:Int):=of_decide_eq_true qB56;obtain⟨ad449,e449,hx449_0⟩:=Kd.at_int (Kd.R_reads' HO_8.1).2.2 0 p449 q449;obtain rfl:ad448=ad449:=(by injection e449)
                  have qi449:(0<t445.length)=True:=eq_true (by omega)
                  (try rw [show((0:Int)).toNat=0 from rfl] at hx449_0)
                  (try rw [Addr.add_zero'] at hx449_0)
                  replace p449:=eq_true p449;replace q449:=eq_true q449;go_wp2
                  (first|go_roundg k1|((try simp only [add_plain] at *);go_roundg k1))
                  case measure=>have:=HK1.1;omega
                  case rel=>exact⟨(wrap64 (x22_1+1)),qB57,H',⟨by have:=HK1.1;omega⟩,⟨by (with_reducible repeat(first|apply Kd.R_alloc|apply Kd.R_drewN|apply Kd.R_drew));exact HO_8.1⟩,⟨by (with_reducible repeat(first|apply Kd.R_alloc|apply Kd.R_drewN|apply Kd.R_drew));exact HO_445003.1⟩,⟨by (with_reducible repeat(first|refine blk_drewN ?_ _|refine blk_drew ?_|refine blk_alloc ?_ _));exact BK444.1⟩,⟨by repeat(first|(with_reducible first|exact HB.1|apply below_alloc|apply pw_below_drewN|apply below_drew1|refine below_set ?_ GE444.1)|exact HB.1)⟩⟩
                · rw [if_neg c16] at H
                  have c16b0:((rd t445 x22_1)==(rd t445 0))=false:=beq_eq_false_iff_ne.mpr c16;have c16b1:((rd t445 x22_1) !=(rd t445 0))=true:=bne_iff_ne.mpr c16;simp only [Option.some.injEq,Prod.mk.injEq] at H;obtain⟨rfl,rfl⟩:=H;have p448:0≤(x22_1:Int):=of_decide_eq_true qB56;have q448:x22_1<(t445.length:Int):=of_decide_eq_true qB56;obtain⟨ad448,e448,hx448_0⟩:=Kd.at_int (Kd.R_reads' HO_8.1).2.2 x22_1 p448 q448;cases e448
                  replace p448:=eq_true p448;replace q448:=eq_true q448;have p449:0≤(0:Int):=(by omega)
                  have q449:0<(t445.length:Int):=of_decide_eq_true qB56;obtain⟨ad449,e449,hx449_0⟩:=Kd.at_int (Kd.R_reads' HO_8.1).2.2 0 p449 q449;obtain rfl:ad448=ad449:=(by injection e449)
                  have qi449:(0<t445.length)=True:=eq_true (by omega)
                  (try rw [show((0:Int)).toNat=0 from rfl] at hx449_0)
                  (try rw [Addr.add_zero'] at hx449_0)
                  replace p449:=eq_true p449;replace q449:=eq_true q449;go_wp2;go_ret2;exact⟨by first|rfl|(simp [errW_none,errW_some] <;> rfl)|(simp [*,errW_none,errW_some] <;> rfl),by repeat(first|(with_reducible first|exact HB.1|apply below_alloc|apply pw_below_drewN|apply below_drew1|refine below_set ?_ GE444.1)|exact HB.1)⟩
              · rw [if_neg c15] at H
                exact absurd H (by simp)
            · rw [if_neg c14] at H
              exact absurd H (by simp)
          · rw [if_neg c13] at H
            exact absurd H (by simp)
        · rw [if_neg c12] at H
          have c12b0:decide (x22_1<(t445.length:Int))=false:=decide_eq_false c12;clear c12;simp only [Option.some.injEq,Prod.mk.injEq] at H;obtain⟨rfl,rfl⟩:=H;go_wp2;go_ret2;exact⟨by first|rfl|(simp [errW_none,errW_some] <;> rfl)|(simp [*,errW_none,errW_some] <;> rfl),by repeat(first|(with_reducible first|exact HB.1|apply below_alloc|apply pw_below_drewN|apply below_drew1|refine below_set ?_ GE444.1)|exact HB.1)⟩
  · replace c4:=Bool.eq_false_iff.mpr c4
    subst c4;have H1:(some (false,2))=some (r1,r2):=by rw [if_neg (show ¬(false=true) by decide)] at H;exact H
    clear H;have H:=H1;clear H1;simp only [Option.some.injEq,Prod.mk.injEq] at H;obtain⟨rfl,rfl⟩:=H;go_enter Try.func49,Try.ntmps49;go_wp2_with (first|((with_reducible refine gate_callee (f:=81) rfl ?_);refine goesL_ (some 14) rfl rfl Try.func81 (by kernel_rfl) rfl #[.int .i64 a0,.int .i64 a1] rfl qB19 ?_;(with_reducible refine(impl_periodsOf.calls k a0 a1 t437 t438 t439 t440 false _ A3.1).mono ?_);rintro e w17 ⟨v441,rfl,ho0,hb⟩;refine⟨_,rfl,?_⟩;have n0_:=qAm (Kd.R_lower ho0 (below_size qB23));have n1_:=qAm (below_step qB23 hb);clear HB;have HO442:=n0_;have HB:=n1_;clear n0_ n1_;(try clear hb);(try clear hb2);(try clear hk);(try clear hi);(try clear ho0))|((with_reducible refine gate_dst (N:=6) rfl ?_);refine box_event ?hg (N:=6) ?hd (cs:=#[.int .i64 0,.int .i64 0,.int .i64 0,.slice none 0 0]) (t:=97) ?hr ?_;(case hd=>rfl);(case hg=>rfl);(case hr=>first|(go_simp;done)|(go_simp;rfl));intro gb444 hg w18 hbox hb;have HU_:Aside0 (∀k_,(v441:Value).ownBlock=some k_→k_<gb444):=qAm (fun k_ e_=>by rw [hg];exact Kd.R_lt HO442.1 k_ e_);have n0_:=qAm (Kd.R_below qB43 hb);have n1_:=qAm (below_step qB23 hb);have n2_:=qAm (hbox);have n3_:=qAm ((by rw [hg];exact(below_size qB23):w.heap.size≤gb444));have n4_:=qAm ((by rw [hg];exact(below_size qB23):w.heap.size≤gb444));clear HO442;clear HB;have HO442:=n0_;have HB:=n1_;have BK444:=n2_;have GW444:=n3_;have GE444:=n4_;clear n0_ n1_ n2_ n3_ n4_;clear hb hbox hg;have hcz19_0:w18.cell? ⟨gb444,0,none⟩=some (.int .i64 0):=(blk_cell BK444.1 0).trans rfl;have hcz19_1:w18.cell? ⟨gb444,1,none⟩=some (.int .i64 0):=(blk_cell BK444.1 1).trans rfl;have hcz19_2:w18.cell? ⟨gb444,2,none⟩=some (.int .i64 0):=(blk_cell BK444.1 2).trans rfl;have hcz19_3:w18.cell? ⟨gb444,3,none⟩=some (.slice none 0 0):=(blk_cell BK444.1 3).trans rfl;have hfz19_0:=blk_frozen BK444.1 0;have hfz19_1:=blk_frozen BK444.1 1;have hfz19_2:=blk_frozen BK444.1 2;have hfz19_3:=blk_frozen BK444.1 3;obtain⟨Ao20,co20,eo20⟩:=Kd.R_slice HO442.1;subst eo20));go_ret2;exact⟨by first|rfl|(simp [errW_none,errW_some] <;> rfl)|(simp [*,errW_none,errW_some] <;> rfl),by repeat(first|(with_reducible first|exact HB.1|apply below_alloc|apply pw_below_drewN|apply below_drew1|refine below_set ?_ GE444.1)|exact HB.1)⟩

/-! ### spec_IsDifferenceClass: function 50 -/
def spec_IsDifferenceClass.l0:Nat→List Int→Int→Option (Bool×Int)
  |0,_,_=>none
  |k+1,x7,x8=>if x8<(x7.length:Int) then (if 0≤x8 then (if 0<(x7.length:Int) then (if (rd x7 x8)=(rd x7 0) then (spec_IsDifferenceClass.l0 k x7 (wrap64 (x8+1))) else (some (false,0))) else (none)) else (none)) else (some (true,0))
def spec_IsDifferenceClass.f (k:Nat) (a0:Int) (a1:Int):Option (Bool×Int):=(spec_l06Code.f k a0 a1 ([]:List Int)).bind fun t450=>(if t450=0 then ((spec_l06Differences.f k a0 a1).bind fun t451=>(spec_IsDifferenceClass.l0 k t451 0)) else (some (false,t450)))
theorem spec_IsDifferenceClass.mono_l:∀k,(∀y0 y1,LeO (spec_IsDifferenceClass.l0 k y0 y1) (spec_IsDifferenceClass.l0 (k+1) y0 y1))
  |0=>fun _ _ r h=>by simp [spec_IsDifferenceClass.l0] at h
  |k+1=>by
    have ih0:=spec_IsDifferenceClass.mono_l k
    · intro y0 y1
      unfold spec_IsDifferenceClass.l0;repeat' first
      |(with_reducible exact ih0 _ _)
      |(with_reducible exact spec_l06Code.mono _ _ _ _)
      |(with_reducible exact spec_l06Differences.mono _ _ _)
      |(with_reducible exact LeO.refl _)
      |(with_reducible exact LeO.none _)
      |(with_reducible refine LeO.ite ?_ ?_)
      |(with_reducible refine LeO.bind ?_ (fun _=>?_))
      |exact ih0 _ _
      |exact spec_l06Code.mono _ _ _ _
      |exact spec_l06Differences.mono _ _ _
      |exact LeO.none _
      |refine LeO.ite ?_ ?_
      |refine LeO.bind ?_ (fun _=>?_)
theorem spec_IsDifferenceClass.mono:∀a0 a1 k,LeO (spec_IsDifferenceClass.f k a0 a1) (spec_IsDifferenceClass.f (k+1) a0 a1):=by
  intro a0 a1 k;have ih0:=spec_IsDifferenceClass.mono_l k;unfold spec_IsDifferenceClass.f;repeat' first
      |(with_reducible exact ih0 _ _)
      |(with_reducible exact spec_l06Code.mono _ _ _ _)
      |(with_reducible exact spec_l06Differences.mono _ _ _)
      |(with_reducible exact LeO.refl _)
      |(with_reducible exact LeO.none _)
      |(with_reducible refine LeO.ite ?_ ?_)
      |(with_reducible refine LeO.bind ?_ (fun _=>?_))
      |exact ih0 _ _
      |exact spec_l06Code.mono _ _ _ _
      |exact spec_l06Differences.mono _ _ _
      |exact LeO.none _
      |refine LeO.ite ?_ ?_
      |refine LeO.bind ?_ (fun _=>?_)
set_option maxHeartbeats 8000000 in
set_option maxRecDepth 100000 in
theorem spec_IsDifferenceClass.calls (k:Nat) (a0:Int) (a1:Int) (r1:Bool) (r2:Int) (w:World) (h:spec_IsDifferenceClass.f k a0 a1=some (r1,r2)):
    Calls Try.prog 50 #[.int .i64 a0,.int .i64 a1] w fun e w'=>e=.returned (.tuple #[.bool r1,.int .i64 r2])∧Below w.heap.size w w':=by
  have HB:=qAm (Below.refl w.heap.size w);have H:((spec_l06Code.f k a0 a1 ([]:List Int)).bind fun t450=>(if t450=0 then ((spec_l06Differences.f k a0 a1).bind fun t451=>(spec_IsDifferenceClass.l0 k t451 0)) else (some (false,t450))))=some (r1,r2):=h;clear h;replace H:=qOb H;obtain⟨t450,A30,H⟩:=H;replace H:(if t450=0 then ((spec_l06Differences.f k a0 a1).bind fun t451=>(spec_IsDifferenceClass.l0 k t451 0)) else (some (false,t450)))=some (r1,r2):=H;have A3:=qAm A30;clear A30
  by_cases c4:t450=0
  · rw [if_pos c4] at H
    have c4b0:(t450==0)=true:=beq_iff_eq.mpr c4;have c4b1:(t450 !=0)=false:=bne_eq_false_iff_eq.mpr c4;clear c4;replace H:=qOb H;obtain⟨t451,A50,H⟩:=H;replace H:(spec_IsDifferenceClass.l0 k t451 0)=some (r1,r2):=H;have A5:=qAm A50;clear A50;have H':=qAm H;clear H;go_enter Try.func50,Try.ntmps50;go_wp2_with (first|(go_at_call 79;(refine(spec_l06Code.calls k a0 a1 _ _ ([]:List Int) t450 _ ?side1 ?side2 A3.1).mono ?_);(case side1=>exact Kd.C_nil _ _);(case side2=>exact Nat.le_refl _);rintro e w' ⟨rfl,⟨nd,rfl⟩⟩;(try first|exact⟨rfl,_,World.drewN_drewN _ _ _⟩|exact⟨rfl,_,Eq.trans (World.drewN_drewN _ _ _) (congrArg (World.drewN _) (Nat.add_assoc _ _ _))⟩))|(go_at_call 98;(with_reducible refine(spec_l06Differences.calls k a0 a1 t451 _ A5.1).mono ?_);rintro e w6 ⟨v452,rfl,ho0,hb⟩;have n0_:=qAm (Kd.R_lower ho0 (below_size qB23));have n1_:=qAm (below_step qB23 hb);clear HB;have HO453:=n0_;have HB:=n1_;clear n0_ n1_;(try clear hb);(try clear hb2);(try clear hk);(try clear hi);(try clear ho0)));repeat(go_quiet (first|(go_at_call 79;(refine(spec_l06Code.calls k a0 a1 _ _ ([]:List Int) t450 _ ?side1 ?side2 A3.1).mono ?_);(case side1=>exact Kd.C_nil _ _);(case side2=>exact Nat.le_refl _);rintro e w' ⟨rfl,⟨nd,rfl⟩⟩;(try first|exact⟨rfl,_,World.drewN_drewN _ _ _⟩|exact⟨rfl,_,Eq.trans (World.drewN_drewN _ _ _) (congrArg (World.drewN _) (Nat.add_assoc _ _ _))⟩))|(go_at_call 98;(with_reducible refine(spec_l06Differences.calls k a0 a1 t451 _ A5.1).mono ?_);rintro e w6 ⟨v452,rfl,ho0,hb⟩;have n0_:=qAm (Kd.R_lower ho0 (below_size qB23));have n1_:=qAm (below_step qB23 hb);clear HB;have HO453:=n0_;have HB:=n1_;clear n0_ n1_;(try clear hb);(try clear hb2);(try clear hk);(try clear hi);(try clear ho0)));try go_wp2_with (first|(go_at_call 79;(refine(spec_l06Code.calls k a0 a1 _ _ ([]:List Int) t450 _ ?side1 ?side2 A3.1).mono ?_);(case side1=>exact Kd.C_nil _ _);(case side2=>exact Nat.le_refl _);rintro e w' ⟨rfl,⟨nd,rfl⟩⟩;(try first|exact⟨rfl,_,World.drewN_drewN _ _ _⟩|exact⟨rfl,_,Eq.trans (World.drewN_drewN _ _ _) (congrArg (World.drewN _) (Nat.add_assoc _ _ _))⟩))|(go_at_call 98;(with_reducible refine(spec_l06Differences.calls k a0 a1 t451 _ A5.1).mono ?_);rintro e w6 ⟨v452,rfl,ho0,hb⟩;have n0_:=qAm (Kd.R_lower ho0 (below_size qB23));have n1_:=qAm (below_step qB23 hb);clear HB;have HO453:=n0_;have HB:=n1_;clear n0_ n1_;(try clear hb);(try clear hb2);(try clear hk);(try clear hi);(try clear ho0))))
    try simp only [Act.put,qSa,qSc,qSb]
    go_loopg [8] k (fun kq v8 w'=>∃(x8_1:Int),v8=.int .i64 x8_1∧Aside0 (spec_IsDifferenceClass.l0 kq t451 x8_1=some (r1,r2))∧Aside0 (kq≤k)∧Aside0 (Kd.R (Kd.int .i64) 2 w' w.heap.size (fun _=>True) v452 t451)∧Aside0 (Below w.heap.size w w'))
    case atStart=>exact⟨(0),qB57,H',⟨Nat.le_refl _⟩,⟨by (with_reducible repeat(first|apply Kd.R_alloc|apply Kd.R_drewN|apply Kd.R_drew));exact HO453.1⟩,⟨by repeat(first|(with_reducible first|exact HB.1|apply below_alloc|apply pw_below_drewN|apply below_drew1)|exact HB.1)⟩⟩
    case round=>
      clear H';try clear p2
      try clear c4
      try clear c4b0
      try clear c4b1
      try clear c5
      obtain⟨x8_1,rfl,HA,HK1,HO_7,HB⟩:=hrel;cases gk with
      |zero=>exact absurd HA.1 (by simp [spec_IsDifferenceClass.l0])
      |succ k1=>
        have H:=HA.1;clear HA;simp only [spec_IsDifferenceClass.l0] at H
        by_cases c7:x8_1<(t451.length:Int)
        · rw [if_pos c7] at H
          have c7b0:decide (x8_1<(t451.length:Int))=true:=decide_eq_true c7;clear c7
          by_cases c8:0≤x8_1
          · rw [if_pos c8] at H
            have c8b0:decide (0≤x8_1)=true:=decide_eq_true c8;clear c8
            by_cases c9:0<(t451.length:Int)
            · rw [if_pos c9] at H
              have c9b0:decide (0<(t451.length:Int))=true:=decide_eq_true c9;have c9b1:decide (0<t451.length)=true:=decide_eq_true (by omega);clear c9
              by_cases c10:(rd t451 x8_1)=(rd t451 0)
              · rw [if_pos c10] at H
                have c10b0:((rd t451 x8_1)==(rd t451 0))=true:=beq_iff_eq.mpr c10;have c10b1:((rd t451 x8_1) !=(rd t451 0))=false:=bne_eq_false_iff_eq.mpr c10;clear c10;have H':=qAm H;clear H;obtain⟨Ao11,co11,eo11⟩:=Kd.R_slice HO_7.1;subst eo11;have p454:0≤(x8_1:Int):=of_decide_eq_true qB56;have q454:x8_1<(t451.length:Int):=of_decide_eq_true qB56;obtain⟨ad454,e454,hx454_0⟩:=Kd.at_int (Kd.R_reads' HO_7.1).2.2 x8_1 p454 q454;cases e454
                replace p454:=eq_true p454;replace q454:=eq_true q454;have p455:0≤(0:Int):=(by omega)
                have q455:0<(t451.length:Int):=of_decide_eq_true qB56;obtain⟨ad455,e455,hx455_0⟩:=Kd.at_int (Kd.R_reads' HO_7.1).2.2 0 p455 q455;obtain rfl:ad454=ad455:=(by injection e455)
                have qi455:(0<t451.length)=True:=eq_true (by omega)
                (try rw [show((0:Int)).toNat=0 from rfl] at hx455_0)
                (try rw [Addr.add_zero'] at hx455_0)
                replace p455:=eq_true p455;replace q455:=eq_true q455;go_wp2;repeat(go_quiet (fail);try go_wp2)
                (first|go_roundg k1|((try simp only [add_plain] at *);go_roundg k1))
                case measure=>have:=HK1.1;omega
                case rel=>exact⟨(wrap64 (x8_1+1)),qB57,H',⟨by have:=HK1.1;omega⟩,⟨by (with_reducible repeat(first|apply Kd.R_alloc|apply Kd.R_drewN|apply Kd.R_drew));exact HO_7.1⟩,⟨by repeat(first|(with_reducible first|exact HB.1|apply below_alloc|apply pw_below_drewN|apply below_drew1)|exact HB.1)⟩⟩
              · rw [if_neg c10] at H
                have c10b0:((rd t451 x8_1)==(rd t451 0))=false:=beq_eq_false_iff_ne.mpr c10;have c10b1:((rd t451 x8_1) !=(rd t451 0))=true:=bne_iff_ne.mpr c10;simp only [Option.some.injEq,Prod.mk.injEq] at H;obtain⟨rfl,rfl⟩:=H;obtain⟨Ao12,co12,eo12⟩:=Kd.R_slice HO_7.1;subst eo12;have p454:0≤(x8_1:Int):=of_decide_eq_true qB56;have q454:x8_1<(t451.length:Int):=of_decide_eq_true qB56;obtain⟨ad454,e454,hx454_0⟩:=Kd.at_int (Kd.R_reads' HO_7.1).2.2 x8_1 p454 q454;cases e454
                replace p454:=eq_true p454;replace q454:=eq_true q454;have p455:0≤(0:Int):=(by omega)
                have q455:0<(t451.length:Int):=of_decide_eq_true qB56;obtain⟨ad455,e455,hx455_0⟩:=Kd.at_int (Kd.R_reads' HO_7.1).2.2 0 p455 q455;obtain rfl:ad454=ad455:=(by injection e455)
                have qi455:(0<t451.length)=True:=eq_true (by omega)
                (try rw [show((0:Int)).toNat=0 from rfl] at hx455_0)
                (try rw [Addr.add_zero'] at hx455_0)
                replace p455:=eq_true p455;replace q455:=eq_true q455;go_wp2;repeat(go_quiet (fail);try go_wp2)
                go_ret2;exact⟨by first|rfl|(simp [errW_none,errW_some] <;> rfl)|(simp [*,errW_none,errW_some] <;> rfl),by repeat(first|(with_reducible first|exact HB.1|apply below_alloc|apply pw_below_drewN|apply below_drew1)|exact HB.1)⟩
            · rw [if_neg c9] at H
              exact absurd H (by simp)
          · rw [if_neg c8] at H
            exact absurd H (by simp)
        · rw [if_neg c7] at H
          have c7b0:decide (x8_1<(t451.length:Int))=false:=decide_eq_false c7;clear c7;simp only [Option.some.injEq,Prod.mk.injEq] at H;obtain⟨rfl,rfl⟩:=H;obtain⟨Ao13,co13,eo13⟩:=Kd.R_slice HO_7.1;subst eo13;go_wp2;repeat(go_quiet (fail);try go_wp2)
          go_ret2;exact⟨by first|rfl|(simp [errW_none,errW_some] <;> rfl)|(simp [*,errW_none,errW_some] <;> rfl),by repeat(first|(with_reducible first|exact HB.1|apply below_alloc|apply pw_below_drewN|apply below_drew1)|exact HB.1)⟩
  · rw [if_neg c4] at H
    have c4b0:(t450==0)=false:=beq_eq_false_iff_ne.mpr c4;have c4b1:(t450 !=0)=true:=bne_iff_ne.mpr c4;simp only [Option.some.injEq,Prod.mk.injEq] at H;obtain⟨rfl,rfl⟩:=H;go_enter Try.func50,Try.ntmps50;go_wp2_with (first|(go_at_call 79;(refine(spec_l06Code.calls k a0 a1 _ _ ([]:List Int) t450 _ ?side1 ?side2 A3.1).mono ?_);(case side1=>exact Kd.C_nil _ _);(case side2=>exact Nat.le_refl _);rintro e w' ⟨rfl,⟨nd,rfl⟩⟩;(try first|exact⟨rfl,_,World.drewN_drewN _ _ _⟩|exact⟨rfl,_,Eq.trans (World.drewN_drewN _ _ _) (congrArg (World.drewN _) (Nat.add_assoc _ _ _))⟩)));repeat(go_quiet (first|(go_at_call 79;(refine(spec_l06Code.calls k a0 a1 _ _ ([]:List Int) t450 _ ?side1 ?side2 A3.1).mono ?_);(case side1=>exact Kd.C_nil _ _);(case side2=>exact Nat.le_refl _);rintro e w' ⟨rfl,⟨nd,rfl⟩⟩;(try first|exact⟨rfl,_,World.drewN_drewN _ _ _⟩|exact⟨rfl,_,Eq.trans (World.drewN_drewN _ _ _) (congrArg (World.drewN _) (Nat.add_assoc _ _ _))⟩)));try go_wp2_with (first|(go_at_call 79;(refine(spec_l06Code.calls k a0 a1 _ _ ([]:List Int) t450 _ ?side1 ?side2 A3.1).mono ?_);(case side1=>exact Kd.C_nil _ _);(case side2=>exact Nat.le_refl _);rintro e w' ⟨rfl,⟨nd,rfl⟩⟩;(try first|exact⟨rfl,_,World.drewN_drewN _ _ _⟩|exact⟨rfl,_,Eq.trans (World.drewN_drewN _ _ _) (congrArg (World.drewN _) (Nat.add_assoc _ _ _))⟩))))
    go_ret2;exact⟨by first|rfl|(simp [errW_none,errW_some] <;> rfl)|(simp [*,errW_none,errW_some] <;> rfl),by repeat(first|(with_reducible first|exact HB.1|apply below_alloc|apply pw_below_drewN|apply below_drew1)|exact HB.1)⟩

/-! ### laws_hasInt: function 51 -/
def laws_hasInt.l0:Nat→List Int→Int→Int→Option (Bool)
  |0,_,_,_=>none
  |k+1,x0,x1,x5=>if x5<(x0.length:Int) then (if 0≤x5 then (if (rd x0 x5)=x1 then (some true) else (laws_hasInt.l0 k x0 x1 (wrap64 (x5+1)))) else (none)) else (some false)
def laws_hasInt.f (k:Nat) (l0:List Int) (a1:Int):Option (Bool):=laws_hasInt.l0 k l0 a1 0
theorem laws_hasInt.mono_l:∀k,(∀y0 y1 y2,LeO (laws_hasInt.l0 k y0 y1 y2) (laws_hasInt.l0 (k+1) y0 y1 y2))
  |0=>fun _ _ _ r h=>by simp [laws_hasInt.l0] at h
  |k+1=>by
    have ih0:=laws_hasInt.mono_l k
    · intro y0 y1 y2
      unfold laws_hasInt.l0;repeat' first
      |(with_reducible exact ih0 _ _ _)
      |(with_reducible exact LeO.refl _)
      |(with_reducible exact LeO.none _)
      |(with_reducible refine LeO.ite ?_ ?_)
      |(with_reducible refine LeO.bind ?_ (fun _=>?_))
      |exact ih0 _ _ _
      |exact LeO.none _
      |refine LeO.ite ?_ ?_
      |refine LeO.bind ?_ (fun _=>?_)
theorem laws_hasInt.mono:∀a0 a1 k,LeO (laws_hasInt.f k a0 a1) (laws_hasInt.f (k+1) a0 a1):=by
  intro a0 a1 k;have ih0:=laws_hasInt.mono_l k;unfold laws_hasInt.f;repeat' first
      |(with_reducible exact ih0 _ _ _)
      |(with_reducible exact LeO.refl _)
      |(with_reducible exact LeO.none _)
      |(with_reducible refine LeO.ite ?_ ?_)
      |(with_reducible refine LeO.bind ?_ (fun _=>?_))
      |exact ih0 _ _ _
      |exact LeO.none _
      |refine LeO.ite ?_ ?_
      |refine LeO.bind ?_ (fun _=>?_)
set_option maxHeartbeats 8000000 in
set_option maxRecDepth 100000 in
theorem laws_hasInt.calls (k:Nat) (A0:Option Addr) (c0:Nat) (l0:List Int) (a1:Int) (r:Bool) (w:World) (hr0:Kd.C (Kd.int .i64) w A0 l0.length l0) (hc0:l0.length≤c0) (h:laws_hasInt.f k l0 a1=some r):
    Calls Try.prog 51 #[.slice A0 l0.length c0,.int .i64 a1] w fun e w'=>e=.returned (.bool r)∧Drawn0 w w':=by
  have HR0:=qAm hr0;have HC0:=qAm hc0;clear hr0 hc0;have H:(laws_hasInt.l0 k l0 a1 0)=some r:=h;clear h;have H':=qAm H;clear H;go_enter Try.func51,Try.ntmps51;go_wp2;try simp only [Act.put,qSa,qSc,qSb]
  go_loopg [5] k (fun kq v5 w'=>∃(x5_1:Int),v5=.int .i64 x5_1∧Aside0 (laws_hasInt.l0 kq l0 a1 x5_1=some r)∧Aside0 (kq≤k)∧Drawn0 w w')
  case atStart=>exact⟨(0),qB57,H',⟨Nat.le_refl _⟩,by repeat(first|exact Drawn0.refl _|apply Drawn0.step)⟩
  case round=>
    clear H';try clear p2
    obtain⟨x5_1,rfl,HA,HK1,⟨m1,rfl⟩⟩:=hrel;cases gk with
    |zero=>exact absurd HA.1 (by simp [laws_hasInt.l0])
    |succ k1=>
      have H:=HA.1;clear HA;simp only [laws_hasInt.l0] at H
      by_cases c3:x5_1<(l0.length:Int)
      · rw [if_pos c3] at H
        have c3b0:decide (x5_1<(l0.length:Int))=true:=decide_eq_true c3;clear c3
        by_cases c4:0≤x5_1
        · rw [if_pos c4] at H
          have c4b0:decide (0≤x5_1)=true:=decide_eq_true c4;clear c4
          by_cases c5:(rd l0 x5_1)=a1
          · rw [if_pos c5] at H
            have c5b0:((rd l0 x5_1)==a1)=true:=beq_iff_eq.mpr c5;have c5b1:((rd l0 x5_1) !=a1)=false:=bne_eq_false_iff_eq.mpr c5;clear c5;obtain rfl:=Option.some.inj H;have p456:0≤(x5_1:Int):=of_decide_eq_true qB56;have q456:x5_1<(l0.length:Int):=of_decide_eq_true qB56;obtain⟨ad456,e456,hx456_0⟩:=Kd.at_int HR0.1 x5_1 p456 q456;cases e456
            replace p456:=eq_true p456;replace q456:=eq_true q456;go_wp2;go_ret;exact⟨by first|rfl|(simp;done)|(simp [*];done),by repeat(first|exact Drawn0.refl _|apply Drawn0.step)⟩
          · rw [if_neg c5] at H
            have c5b0:((rd l0 x5_1)==a1)=false:=beq_eq_false_iff_ne.mpr c5;have c5b1:((rd l0 x5_1) !=a1)=true:=bne_iff_ne.mpr c5;have H':=qAm H;clear H;have p456:0≤(x5_1:Int):=of_decide_eq_true qB56;have q456:x5_1<(l0.length:Int):=of_decide_eq_true qB56;obtain⟨ad456,e456,hx456_0⟩:=Kd.at_int HR0.1 x5_1 p456 q456;cases e456
            replace p456:=eq_true p456;replace q456:=eq_true q456;go_wp2
            (first|go_roundg k1|((try simp only [add_plain] at *);go_roundg k1))
            case measure=>have:=HK1.1;omega
            case rel=>exact⟨(wrap64 (x5_1+1)),qB57,H',⟨by have:=HK1.1;omega⟩,by repeat(first|exact Drawn0.refl _|apply Drawn0.step)⟩
        · rw [if_neg c4] at H
          exact absurd H (by simp)
      · rw [if_neg c3] at H
        have c3b0:decide (x5_1<(l0.length:Int))=false:=decide_eq_false c3;clear c3;obtain rfl:=Option.some.inj H;go_wp2;go_ret;exact⟨by first|rfl|(simp;done)|(simp [*];done),by repeat(first|exact Drawn0.refl _|apply Drawn0.step)⟩

/-! ### laws_sum: function 52 -/
def laws_sum.l0:Nat→List Int→Int→Int→Option (Int)
  |0,_,_,_=>none
  |k+1,x0,x3,x4=>if x4<(x0.length:Int) then (if 0≤x4 then (laws_sum.l0 k x0 (wrap64 (x3+(rd x0 x4))) (wrap64 (x4+1))) else (none)) else (some x3)
def laws_sum.f (k:Nat) (l0:List Int):Option (Int):=laws_sum.l0 k l0 0 0
theorem laws_sum.mono_l:∀k,(∀y0 y1 y2,LeO (laws_sum.l0 k y0 y1 y2) (laws_sum.l0 (k+1) y0 y1 y2))
  |0=>fun _ _ _ r h=>by simp [laws_sum.l0] at h
  |k+1=>by
    have ih0:=laws_sum.mono_l k
    · intro y0 y1 y2
      unfold laws_sum.l0;repeat' first
      |(with_reducible exact ih0 _ _ _)
      |(with_reducible exact LeO.refl _)
      |(with_reducible exact LeO.none _)
      |(with_reducible refine LeO.ite ?_ ?_)
      |(with_reducible refine LeO.bind ?_ (fun _=>?_))
      |exact ih0 _ _ _
      |exact LeO.none _
      |refine LeO.ite ?_ ?_
      |refine LeO.bind ?_ (fun _=>?_)
theorem laws_sum.mono:∀a0 k,LeO (laws_sum.f k a0) (laws_sum.f (k+1) a0):=by
  intro a0 k;have ih0:=laws_sum.mono_l k;unfold laws_sum.f;repeat' first
      |(with_reducible exact ih0 _ _ _)
      |(with_reducible exact LeO.refl _)
      |(with_reducible exact LeO.none _)
      |(with_reducible refine LeO.ite ?_ ?_)
      |(with_reducible refine LeO.bind ?_ (fun _=>?_))
      |exact ih0 _ _ _
      |exact LeO.none _
      |refine LeO.ite ?_ ?_
      |refine LeO.bind ?_ (fun _=>?_)
set_option maxHeartbeats 8000000 in
set_option maxRecDepth 100000 in
theorem laws_sum.calls (k:Nat) (A0:Option Addr) (c0:Nat) (l0:List Int) (r:Int) (w:World) (hr0:Kd.C (Kd.int .i64) w A0 l0.length l0) (hc0:l0.length≤c0) (h:laws_sum.f k l0=some r):
    Calls Try.prog 52 #[.slice A0 l0.length c0] w fun e w'=>e=.returned (.int .i64 r)∧Drawn0 w w':=by
  have HR0:=qAm hr0;have HC0:=qAm hc0;clear hr0 hc0;have H:(laws_sum.l0 k l0 0 0)=some r:=h;clear h;have H':=qAm H;clear H;go_enter Try.func52,Try.ntmps52;go_wp2;try simp only [Act.put,qSa,qSc,qSb]
  go_loopg [3,4] k (fun kq v3 v4 w'=>∃(x3_1:Int) (x4_1:Int),v3=.int .i64 x3_1∧v4=.int .i64 x4_1∧Aside0 (laws_sum.l0 kq l0 x3_1 x4_1=some r)∧Aside0 (kq≤k)∧Drawn0 w w')
  case atStart=>exact⟨(0),(0),qB57,qB57,H',⟨Nat.le_refl _⟩,by repeat(first|exact Drawn0.refl _|apply Drawn0.step)⟩
  case round=>
    clear H';obtain⟨x3_1,x4_1,rfl,rfl,HA,HK1,⟨m1,rfl⟩⟩:=hrel;cases gk with
    |zero=>exact absurd HA.1 (by simp [laws_sum.l0])
    |succ k1=>
      have H:=HA.1;clear HA;simp only [laws_sum.l0] at H
      by_cases c2:x4_1<(l0.length:Int)
      · rw [if_pos c2] at H
        have c2b0:decide (x4_1<(l0.length:Int))=true:=decide_eq_true c2;clear c2
        by_cases c3:0≤x4_1
        · rw [if_pos c3] at H
          have c3b0:decide (0≤x4_1)=true:=decide_eq_true c3;clear c3;have H':=qAm H;clear H;have p457:0≤(x4_1:Int):=of_decide_eq_true qB56;have q457:x4_1<(l0.length:Int):=of_decide_eq_true qB56;obtain⟨ad457,e457,hx457_0⟩:=Kd.at_int HR0.1 x4_1 p457 q457;cases e457
          replace p457:=eq_true p457;replace q457:=eq_true q457;go_wp2
          (first|go_roundg k1|((try simp only [add_plain] at *);go_roundg k1))
          case measure=>have:=HK1.1;omega
          case rel=>exact⟨(wrap64 (x3_1+(rd l0 x4_1))),(wrap64 (x4_1+1)),qB57,qB57,H',⟨by have:=HK1.1;omega⟩,by repeat(first|exact Drawn0.refl _|apply Drawn0.step)⟩
        · rw [if_neg c3] at H
          exact absurd H (by simp)
      · rw [if_neg c2] at H
        have c2b0:decide (x4_1<(l0.length:Int))=false:=decide_eq_false c2;clear c2;obtain rfl:=Option.some.inj H;go_wp2;go_ret;exact⟨by first|rfl|(simp;done)|(simp [*];done),by repeat(first|exact Drawn0.refl _|apply Drawn0.step)⟩

end Go.Proofs.Ytefhabkikaadiaa.PFnPeriods
