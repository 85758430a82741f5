/- The functions that the law reaches, as plain functions, each with the proof that the program comes to it; no condition. Written by a program of this session (wip/mp.py) over the printing of the kit; what is marked HAND is told by hand. -/
import Derived.Test.YtefhabkikaadiaaPFnExactCycloAtResiduesx0
import Derived.Test.YtefhabkikaadiaaPFnExactCycloAtResiduesx5
import Derived.Test.YtefhabkikaadiaaPFnExactCycloAtResiduesx6
import Derived.Test.YtefhabkikaadiaaPFnExactCycloAtResiduesx7
namespace Go.Proofs.Ytefhabkikaadiaa.PFnExactCycloAtResidues
open Go.RowKit Go.Proofs.YtefhabkikaadiaaW.PrintWords Go.Proofs.YtefhabkikaadiaaW.PrintLast Go.Proofs.YtefhabkikaadiaaW.PrintMore
attribute [local go_sem] max2_int min2_int max_two min_two max_three min_three max_four min_four   -- for this text's walks alone
set_option linter.unusedVariables false
set_option linter.unusedSimpArgs false

/-! ### impl_rootsFor: function 60 -/
mutual
def impl_rootsFor.j0:Nat→Int→Int→Bool→Option (List Int×Bool)
  |0,_,_,_=>none
  |k+1,x0,x1,x22=>if x22=true then (some (([]:List Int),false)) else ((impl_cyclotomic.f k x0).bind fun t245=>(impl_rootsFor.l0 k x1 (([]:List Int)) t245 1))
def impl_rootsFor.l0:Nat→Int→List Int→List Int→Int→Option (List Int×Bool)
  |0,_,_,_,_=>none
  |k+1,x1,x6,x7,x8=>if x8<x1 then ((impl_valueAt.f k x7 x8 x1).bind fun t248=>(if t248=0 then (if x6.length<17592186044416 then (impl_rootsFor.l0 k x1 (x6 ++ [x8]) x7 (wrap64 (x8+1))) else (none)) else (impl_rootsFor.l0 k x1 x6 x7 (wrap64 (x8+1))))) else (some (x6,true))
end
def impl_rootsFor.f (k:Nat) (a0:Int) (a1:Int):Option (List Int×Bool):=(impl_isOrder.f a0).bind fun t239=>(if t239=true then ((impl_isPrime.f k a1).bind fun t240=>(if t240=true then ((impl_splits.f k a0 a1).bind fun t241=>(impl_rootsFor.j0 k a0 a1 (!t241))) else (impl_rootsFor.j0 k a0 a1 true))) else (impl_rootsFor.j0 k a0 a1 true))
theorem impl_rootsFor.mono_l:∀k,(∀y0 y1 y2,LeO (impl_rootsFor.j0 k y0 y1 y2) (impl_rootsFor.j0 (k+1) y0 y1 y2))∧(∀y0 y1 y2 y3,LeO (impl_rootsFor.l0 k y0 y1 y2 y3) (impl_rootsFor.l0 (k+1) y0 y1 y2 y3))
  |0=>⟨fun _ _ _ r h=>by simp [impl_rootsFor.j0] at h,fun _ _ _ _ r h=>by simp [impl_rootsFor.l0] at h⟩
  |k+1=>by
    obtain⟨ih0,ih1⟩:=impl_rootsFor.mono_l k;refine⟨?_,?_⟩
    · intro y0 y1 y2
      unfold impl_rootsFor.j0;repeat' first
      |(with_reducible exact ih0 _ _ _)
      |(with_reducible exact ih1 _ _ _ _)
      |(with_reducible exact impl_cyclotomic.mono _ _)
      |(with_reducible exact impl_isPrime.mono _ _)
      |(with_reducible exact impl_splits.mono _ _ _)
      |(with_reducible exact impl_valueAt.mono _ _ _ _)
      |(with_reducible exact LeO.refl _)
      |(with_reducible exact LeO.none _)
      |(with_reducible refine LeO.ite ?_ ?_)
      |(with_reducible refine LeO.bind ?_ (fun _=>?_))
      |exact ih0 _ _ _
      |exact ih1 _ _ _ _
      |exact impl_cyclotomic.mono _ _
      |exact impl_isPrime.mono _ _
      |exact impl_splits.mono _ _ _
      |exact impl_valueAt.mono _ _ _ _
      |exact LeO.none _
      |refine LeO.ite ?_ ?_
      |refine LeO.bind ?_ (fun _=>?_)
    · intro y0 y1 y2 y3
      unfold impl_rootsFor.l0;repeat' first
      |(with_reducible exact ih0 _ _ _)
      |(with_reducible exact ih1 _ _ _ _)
      |(with_reducible exact impl_cyclotomic.mono _ _)
      |(with_reducible exact impl_isPrime.mono _ _)
      |(with_reducible exact impl_splits.mono _ _ _)
      |(with_reducible exact impl_valueAt.mono _ _ _ _)
      |(with_reducible exact LeO.refl _)
      |(with_reducible exact LeO.none _)
      |(with_reducible refine LeO.ite ?_ ?_)
      |(with_reducible refine LeO.bind ?_ (fun _=>?_))
      |exact ih0 _ _ _
      |exact ih1 _ _ _ _
      |exact impl_cyclotomic.mono _ _
      |exact impl_isPrime.mono _ _
      |exact impl_splits.mono _ _ _
      |exact impl_valueAt.mono _ _ _ _
      |exact LeO.none _
      |refine LeO.ite ?_ ?_
      |refine LeO.bind ?_ (fun _=>?_)
theorem impl_rootsFor.mono:∀a0 a1 k,LeO (impl_rootsFor.f k a0 a1) (impl_rootsFor.f (k+1) a0 a1):=by
  intro a0 a1 k;obtain⟨ih0,ih1⟩:=impl_rootsFor.mono_l k;unfold impl_rootsFor.f;repeat' first
      |(with_reducible exact ih0 _ _ _)
      |(with_reducible exact ih1 _ _ _ _)
      |(with_reducible exact impl_cyclotomic.mono _ _)
      |(with_reducible exact impl_isPrime.mono _ _)
      |(with_reducible exact impl_splits.mono _ _ _)
      |(with_reducible exact impl_valueAt.mono _ _ _ _)
      |(with_reducible exact LeO.refl _)
      |(with_reducible exact LeO.none _)
      |(with_reducible refine LeO.ite ?_ ?_)
      |(with_reducible refine LeO.bind ?_ (fun _=>?_))
      |exact ih0 _ _ _
      |exact ih1 _ _ _ _
      |exact impl_cyclotomic.mono _ _
      |exact impl_isPrime.mono _ _
      |exact impl_splits.mono _ _ _
      |exact impl_valueAt.mono _ _ _ _
      |exact LeO.none _
      |refine LeO.ite ?_ ?_
      |refine LeO.bind ?_ (fun _=>?_)
set_option maxHeartbeats 8000000 in
set_option maxRecDepth 100000 in
theorem impl_rootsFor.calls (k:Nat) (a0:Int) (a1:Int) (r1:List Int) (r2:Bool) (w:World) (h:impl_rootsFor.f k a0 a1=some (r1,r2)):
    Calls Try.prog 60 #[.int .i64 a0,.int .i64 a1] w fun e w'=>∃v0_:Value,e=.returned (.tuple #[v0_,.bool r2])∧Kd.R (Kd.int .i64) 2 w' w.heap.size (fun _=>True) v0_ r1∧Below w.heap.size w w':=by
  have HB:=qAm (Below.refl w.heap.size w);have H:((impl_isOrder.f a0).bind fun t239=>(if t239=true then ((impl_isPrime.f k a1).bind fun t240=>(if t240=true then ((impl_splits.f k a0 a1).bind fun t241=>(impl_rootsFor.j0 k a0 a1 (!t241))) else (impl_rootsFor.j0 k a0 a1 true))) else (impl_rootsFor.j0 k a0 a1 true)))=some (r1,r2):=h;clear h;have HC3:=qAm H;clear H;go_enter Try.func60,Try.ntmps60;go_upto_region 1 with (fail)
  go_cut [22] (fun v22 wc=>∃(kq:Nat) (x22_2:Bool),v22=.bool x22_2∧Aside0 (impl_rootsFor.j0 kq a0 a1 x22_2=some (r1,r2))∧Aside0 (kq≤k)∧Aside0 (Below w.heap.size w wc))
  case first=>
    have H:=HC3.1;clear HC3;replace H:=qOb H;obtain⟨t239,A40,H⟩:=H;replace H:(if t239=true then ((impl_isPrime.f k a1).bind fun t240=>(if t240=true then ((impl_splits.f k a0 a1).bind fun t241=>(impl_rootsFor.j0 k a0 a1 (!t241))) else (impl_rootsFor.j0 k a0 a1 true))) else (impl_rootsFor.j0 k a0 a1 true))=some (r1,r2):=H;have A4:=qAm A40;clear A40
    by_cases c5:t239=true
    · subst c5
      have H1:((impl_isPrime.f k a1).bind fun t240=>(if t240=true then ((impl_splits.f k a0 a1).bind fun t241=>(impl_rootsFor.j0 k a0 a1 (!t241))) else (impl_rootsFor.j0 k a0 a1 true)))=some (r1,r2):=by rw [if_pos rfl] at H;exact H
      clear H;have H:=H1;clear H1;replace H:=qOb H;obtain⟨t240,A60,H⟩:=H;replace H:(if t240=true then ((impl_splits.f k a0 a1).bind fun t241=>(impl_rootsFor.j0 k a0 a1 (!t241))) else (impl_rootsFor.j0 k a0 a1 true))=some (r1,r2):=H;have A6:=qAm A60;clear A60
      by_cases c7:t240=true
      · subst c7
        have H1:((impl_splits.f k a0 a1).bind fun t241=>(impl_rootsFor.j0 k a0 a1 (!t241)))=some (r1,r2):=by rw [if_pos rfl] at H;exact H
        clear H;have H:=H1;clear H1;replace H:=qOb H;obtain⟨t241,A80,H⟩:=H;replace H:(impl_rootsFor.j0 k a0 a1 (!t241))=some (r1,r2):=H;have A8:=qAm A80;clear A80;have H':=qAm H;clear H;go_wp2_with (first|((with_reducible refine gate_callee (f:=103) rfl ?_);refine goesL_ (some 10) rfl rfl Try.func103 (by kernel_rfl) rfl #[.int .i64 a0] rfl qB17 ?_;(with_reducible refine(impl_isOrder.calls a0 true _ A4.1).mono ?_);rintro e w' ⟨rfl,⟨nd,rfl⟩⟩;refine⟨_,rfl,?_⟩)|(go_at_call 106;(with_reducible refine(impl_isPrime.calls k a1 true _ A6.1).mono ?_);rintro e w' ⟨rfl,⟨nd,rfl⟩⟩)|(go_at_call 107;(with_reducible refine(impl_splits.calls k a0 a1 t241 _ A8.1).mono ?_);rintro e w9 ⟨rfl,hb⟩;have n0_:=qAm (below_step qB18 hb);clear HB;have HB:=n0_;clear n0_;(try clear hb);(try clear hb2);(try clear hk);(try clear hi)));go_meet
        case rel=>exact⟨_,(!t241),qB52,H',⟨by first|omega|exact Nat.le_refl _⟩,⟨by repeat(first|(with_reducible first|exact HB.1|apply below_alloc|apply pw_below_drewN|apply below_drew1)|exact HB.1)⟩⟩
      · replace c7:=Bool.eq_false_iff.mpr c7
        subst c7;have H1:(impl_rootsFor.j0 k a0 a1 true)=some (r1,r2):=by rw [if_neg (show ¬(false=true) by decide)] at H;exact H
        clear H;have H:=H1;clear H1;have H':=qAm H;clear H;go_wp2_with (first|((with_reducible refine gate_callee (f:=103) rfl ?_);refine goesL_ (some 10) rfl rfl Try.func103 (by kernel_rfl) rfl #[.int .i64 a0] rfl qB17 ?_;(with_reducible refine(impl_isOrder.calls a0 true _ A4.1).mono ?_);rintro e w' ⟨rfl,⟨nd,rfl⟩⟩;refine⟨_,rfl,?_⟩)|(go_at_call 106;(with_reducible refine(impl_isPrime.calls k a1 false _ A6.1).mono ?_);rintro e w' ⟨rfl,⟨nd,rfl⟩⟩));go_meet
        case rel=>exact⟨_,(true),qB52,H',⟨by first|omega|exact Nat.le_refl _⟩,⟨by repeat(first|(with_reducible first|exact HB.1|apply below_alloc|apply pw_below_drewN|apply below_drew1)|exact HB.1)⟩⟩
    · replace c5:=Bool.eq_false_iff.mpr c5
      subst c5;have H1:(impl_rootsFor.j0 k a0 a1 true)=some (r1,r2):=by rw [if_neg (show ¬(false=true) by decide)] at H;exact H
      clear H;have H:=H1;clear H1;have H':=qAm H;clear H;go_wp2_with (first|((with_reducible refine gate_callee (f:=103) rfl ?_);refine goesL_ (some 10) rfl rfl Try.func103 (by kernel_rfl) rfl #[.int .i64 a0] rfl qB17 ?_;(with_reducible refine(impl_isOrder.calls a0 false _ A4.1).mono ?_);rintro e w' ⟨rfl,⟨nd,rfl⟩⟩;refine⟨_,rfl,?_⟩));go_meet
      case rel=>exact⟨_,(true),qB52,H',⟨by first|omega|exact Nat.le_refl _⟩,⟨by repeat(first|(with_reducible first|exact HB.1|apply below_alloc|apply pw_below_drewN|apply below_drew1)|exact HB.1)⟩⟩
  case rest=>
    clear HC3;try clear c1
    try clear p2
    try clear c5
    try clear c6
    try clear c7
    obtain⟨kq,x22_2,rfl,HA,HJ2,HB⟩:=hcut;cases kq with
    |zero=>exact absurd HA.1 (by simp [impl_rootsFor.j0])
    |succ kj2=>
      have H:=HA.1;clear HA;simp only [impl_rootsFor.j0] at H
      by_cases c10:x22_2=true
      · subst c10
        have H1:(some (([]:List Int),false))=some (r1,r2):=by rw [if_pos rfl] at H;exact H
        clear H;have H:=H1;clear H1;simp only [Option.some.injEq,Prod.mk.injEq] at H;obtain⟨rfl,rfl⟩:=H;go_wp2;go_ret2;exact⟨_,by first|rfl|(simp [errW_none,errW_some] <;> rfl)|(simp [*,errW_none,errW_some] <;> rfl),by first|exact Kd.R_nil _ _ _ _ _|exact Kd.N_nil _ _ _ _ _|exact Kd.V_nil _ _ _ _ _|exact Kd.Q_nil _ _ _ _ _|exact Kd.S_nil _ _ _ _ _,by repeat(first|(with_reducible first|exact HB.1|apply below_alloc|apply pw_below_drewN|apply below_drew1)|exact HB.1)⟩
      · replace c10:=Bool.eq_false_iff.mpr c10
        subst c10;have H1:((impl_cyclotomic.f kj2 a0).bind fun t245=>(impl_rootsFor.l0 kj2 a1 (([]:List Int)) t245 1))=some (r1,r2):=by rw [if_neg (show ¬(false=true) by decide)] at H;exact H
        clear H;have H:=H1;clear H1;obtain⟨y242,hy242⟩:∃y_:List Int,y_=(([]:List Int)):=⟨_,rfl⟩
        replace H:((impl_cyclotomic.f kj2 a0).bind fun t245=>(impl_rootsFor.l0 kj2 a1 y242 t245 1))=some (r1,r2):=by first|(rw [hy242];with_reducible exact H)|(have H2_:=(Option.bind_some _ _).symm.trans H;rw [hy242];with_reducible exact H2_)|(have H2_:=(Option.bind_some _ _).symm.trans H;with_reducible exact H2_)|with_reducible exact H|(rw [hy242];exact H)|exact H
        have Ny242:=qAm hy242;clear hy242;replace H:=qOb H;obtain⟨t245,A110,H⟩:=H;replace H:(impl_rootsFor.l0 kj2 a1 y242 t245 1)=some (r1,r2):=H;have A11:=qAm A110;clear A110;have H':=qAm H;clear H;go_wp2_with (first|((with_reducible refine gate_dst (N:=23) rfl ?_);refine Kd.R_lit (Kd.int .i64) _ 2 ?hg (N:=23) ?hd (xs:=([]:List Int)) (inner:=[]) (ok:=fun _=>True) (okp:=fun _=>True) ?hr ?hp (fun _ hk=>hk) trivial (Below.refl _ _) (Nat.le_refl _) (by simp) ?_;(case hd=>rfl);(case hg=>rfl);(case hr=>first|(go_simp;done)|(go_simp;rfl));(case hp=>exact(Reps.none _ _));intro v243 w12 ho13 hb hg_ hnew_;clear hg_ hnew_;(first|rw [← Ny242.1] at ho13|(simp only [Int.reduceToNat] at ho13;rw [← Ny242.1] at ho13));have n0_:=qAm (Kd.R_lower ho13 (below_size qB18));have n1_:=qAm (below_step qB18 hb);clear HB;have HO244:=n0_;have HB:=n1_;clear n0_ n1_;clear hb ho13)|((with_reducible refine gate_callee (f:=108) rfl ?_);refine goesL_ (some 25) rfl rfl Try.func108 (by kernel_rfl) rfl #[.int .i64 a0] rfl qB17 ?_;(with_reducible refine(impl_cyclotomic.calls kj2 a0 t245 _ A11.1).mono ?_);rintro e w14 ⟨v246,rfl,ho0,hb⟩;refine⟨_,rfl,?_⟩;have n0_:=qAm (Kd.R_elder' qB37 (Kd.R_base ho0) hb);have n1_:=qAm (Kd.R_lower (Kd.R_new' ho0 (Kd.R_lt qB37)) (below_size qB18));have n2_:=qAm (below_step qB18 hb);clear HO244;clear HB;have HO244:=n0_;have HO247:=n1_;have HB:=n2_;clear n0_ n1_ n2_;(try clear hb);(try clear hb2);(try clear hk);(try clear hi);(try clear ho0)));try simp only [Act.put,qSa,qSc,qSb]
        go_loopg [6,8] kj2 (fun kq v6 v8 w'=>∃(x6_2:List Int) (x8_2:Int),v8=.int .i64 x8_2∧Aside0 (impl_rootsFor.l0 kq a1 x6_2 t245 x8_2=some (r1,r2))∧Aside0 (kq≤kj2)∧Aside0 (Kd.R (Kd.int .i64) 2 w' w.heap.size (fun k_=>some k_≠(v246:Value).ownBlock) v6 x6_2)∧Aside0 (Kd.R (Kd.int .i64) 2 w' w.heap.size (fun k_=>some k_≠(v6:Value).ownBlock) v246 t245)∧Aside0 (Below w.heap.size w w'))
        case atStart=>exact⟨(y242),(1),qB52,H',⟨Nat.le_refl _⟩,⟨by (with_reducible repeat(first|apply Kd.R_alloc|apply Kd.R_drewN|apply Kd.R_drew));exact Kd.R_mono HO244.1 (fun _ hk=>hk.2)⟩,⟨by (with_reducible repeat(first|apply Kd.R_alloc|apply Kd.R_drewN|apply Kd.R_drew));exact Kd.R_mono HO247.1 (fun _ hk=>hk.2)⟩,⟨by repeat(first|(with_reducible first|exact HB.1|apply below_alloc|apply pw_below_drewN|apply below_drew1)|exact HB.1)⟩⟩
        case round=>
          clear H';try clear c1
          try clear p2
          try clear c5
          try clear c6
          try clear c7
          try clear c10
          try clear p2
          obtain⟨x6_2,x8_2,rfl,HA,HK2,HO_6,HO_7,HB⟩:=hrel;cases gk with
          |zero=>exact absurd HA.1 (by simp [impl_rootsFor.l0])
          |succ k2=>
            have H:=HA.1;clear HA;simp only [impl_rootsFor.l0] at H
            by_cases c15:x8_2<a1
            · rw [if_pos c15] at H
              have c15b0:decide (x8_2<a1)=true:=decide_eq_true c15;clear c15;replace H:=qOb H;obtain⟨t248,A160,H⟩:=H;replace H:(if t248=0 then (if x6_2.length<17592186044416 then (impl_rootsFor.l0 k2 a1 (x6_2 ++ [x8_2]) t245 (wrap64 (x8_2+1))) else (none)) else (impl_rootsFor.l0 k2 a1 x6_2 t245 (wrap64 (x8_2+1))))=some (r1,r2):=H;have A16:=qAm A160;clear A160
              by_cases c17:t248=0
              · rw [if_pos c17] at H
                have c17b0:(t248==0)=true:=beq_iff_eq.mpr c17;have c17b1:(t248 !=0)=false:=bne_eq_false_iff_eq.mpr c17;clear c17
                by_cases c18:x6_2.length<17592186044416
                · rw [if_pos c18] at H
                  have LMc18:=qAm c18;clear c18;obtain⟨y249,hy249⟩:∃y_:List Int,y_=(x6_2 ++ [x8_2]):=⟨_,rfl⟩
                  replace H:(impl_rootsFor.l0 k2 a1 y249 t245 (wrap64 (x8_2+1)))=some (r1,r2):=by first|(rw [hy249];with_reducible exact H)|(have H2_:=(Option.bind_some _ _).symm.trans H;rw [hy249];with_reducible exact H2_)|(have H2_:=(Option.bind_some _ _).symm.trans H;with_reducible exact H2_)|with_reducible exact H|(rw [hy249];exact H)|exact H
                  have Ny249:=qAm hy249;clear hy249;have H':=qAm H;clear H;obtain⟨Ao19,co19,eo19⟩:=Kd.R_slice HO_7.1;subst eo19;go_wp2_with (first|((with_reducible refine gate_callee (f:=63) rfl ?_);refine goesL_ (some 34) rfl rfl Try.func63 (by kernel_rfl) rfl #[.slice Ao19 t245.length co19,.int .i64 x8_2,.int .i64 a1] rfl qB17 ?_;(with_reducible refine(impl_valueAt.calls k2 _ _ t245 x8_2 a1 t248 _ ?side1 ?side2 A16.1).mono ?_);(case side1=>repeat(first|exact(Kd.R_reads' HO_7.1).2.2|(with_reducible refine Kd.C_alloc ?_ _)|(with_reducible refine Kd.C_drewN ?_ _)|(with_reducible refine Kd.C_drew ?_)));(case side2=>exact(Kd.R_reads' HO_7.1).2.1);rintro e w' ⟨rfl,⟨nd,rfl⟩⟩;refine⟨_,rfl,?_⟩)|((with_reducible refine gate_builtin (b:=.append) (xs:=#[.tmp 36,.tmp 38]) rfl ?_);at_builtin;refine Kd.R_append (Kd.int .i64) (w0:=w) w.heap.size rfl (.tmp 36) (.tmp 38) 22 2 (.int .i64 0) 8 rfl Try.underlying22 info2 rfl (by decide) (by omega) u6 x6_2 x8_2 [.int .i64 x8_2] (fun k_=>some k_≠(.slice Ao19 t245.length co19:Value).ownBlock) (fun _=>False) rfl rfl ?aP (fun _ hk=>hk.elim) ?aF ?aO ?aB ?aS ?aL ?_;(case aP=>exact rfl);(case aB=>exact qB18);(case aF=>exact(fun k_ hk=>Kd.fresh' (Kd.R_lt (by (with_reducible repeat(first|apply Kd.R_alloc|apply Kd.R_drewN|apply Kd.R_drew));exact HO_7.1)) k_ hk));(case aO=>exact qB44);(case aS=>exact(below_size qB18));(case aL=>have:=LMc18.1;omega);intro v250 w20 ho hb hg hat;rw [← Ny249.1] at ho;have n0_:=qAm (Kd.R_after (ok:=(fun _=>True)) (by (with_reducible repeat(first|apply Kd.R_alloc|apply Kd.R_drewN|apply Kd.R_drew));exact Kd.R_mono HO_7.1 (fun _ hk=>⟨trivial,hk⟩)) hg hat);have n1_:=qAm (hb);have n2_:=qAm (ho);clear HO_7;clear HB;clear HO_6;have HO_7:=n0_;have HB:=n1_;have HO251:=n2_;clear n0_ n1_ n2_;clear ho hb hg hat))
                  (first|go_roundg k2|((try simp only [add_plain] at *);go_roundg k2))
                  case measure=>have:=HJ2.1;have:=HK2.1;omega
                  case rel=>exact⟨(y249),(wrap64 (x8_2+1)),qB52,H',⟨by have:=HJ2.1;have:=HK2.1;omega⟩,⟨by (with_reducible repeat(first|apply Kd.R_alloc|apply Kd.R_drewN|apply Kd.R_drew));exact HO251.1⟩,⟨by (with_reducible repeat(first|apply Kd.R_alloc|apply Kd.R_drewN|apply Kd.R_drew));exact Kd.R_mono HO_7.1 (fun _ hk=>hk.2)⟩,⟨by repeat(first|(with_reducible first|exact HB.1|apply below_alloc|apply pw_below_drewN|apply below_drew1)|exact HB.1)⟩⟩
                · rw [if_neg c18] at H
                  exact absurd H (by simp)
              · rw [if_neg c17] at H
                have c17b0:(t248==0)=false:=beq_eq_false_iff_ne.mpr c17;have c17b1:(t248 !=0)=true:=bne_iff_ne.mpr c17;have H':=qAm H;clear H;obtain⟨Ao21,co21,eo21⟩:=Kd.R_slice HO_7.1;subst eo21;go_wp2_with (first|((with_reducible refine gate_callee (f:=63) rfl ?_);refine goesL_ (some 34) rfl rfl Try.func63 (by kernel_rfl) rfl #[.slice Ao21 t245.length co21,.int .i64 x8_2,.int .i64 a1] rfl qB17 ?_;(with_reducible refine(impl_valueAt.calls k2 _ _ t245 x8_2 a1 t248 _ ?side1 ?side2 A16.1).mono ?_);(case side1=>repeat(first|exact(Kd.R_reads' HO_7.1).2.2|(with_reducible refine Kd.C_alloc ?_ _)|(with_reducible refine Kd.C_drewN ?_ _)|(with_reducible refine Kd.C_drew ?_)));(case side2=>exact(Kd.R_reads' HO_7.1).2.1);rintro e w' ⟨rfl,⟨nd,rfl⟩⟩;refine⟨_,rfl,?_⟩))
                (first|go_roundg k2|((try simp only [add_plain] at *);go_roundg k2))
                case measure=>have:=HJ2.1;have:=HK2.1;omega
                case rel=>exact⟨(x6_2),(wrap64 (x8_2+1)),qB52,H',⟨by have:=HJ2.1;have:=HK2.1;omega⟩,⟨by (with_reducible repeat(first|apply Kd.R_alloc|apply Kd.R_drewN|apply Kd.R_drew));exact HO_6.1⟩,⟨by (with_reducible repeat(first|apply Kd.R_alloc|apply Kd.R_drewN|apply Kd.R_drew));exact HO_7.1⟩,⟨by repeat(first|(with_reducible first|exact HB.1|apply below_alloc|apply pw_below_drewN|apply below_drew1)|exact HB.1)⟩⟩
            · rw [if_neg c15] at H
              have c15b0:decide (x8_2<a1)=false:=decide_eq_false c15;clear c15;simp only [Option.some.injEq,Prod.mk.injEq] at H;obtain⟨rfl,rfl⟩:=H;go_wp2;go_ret2;exact⟨_,by first|rfl|(simp [errW_none,errW_some] <;> rfl)|(simp [*,errW_none,errW_some] <;> rfl),by (with_reducible repeat(first|apply Kd.R_alloc|apply Kd.R_drewN|apply Kd.R_drew));exact Kd.R_mono HO_6.1 (fun _ hk=>trivial),by repeat(first|(with_reducible first|exact HB.1|apply below_alloc|apply pw_below_drewN|apply below_drew1)|exact HB.1)⟩

-- NOT PRINTED: function 109 (slices_IndexFunc_int64_int64)

-- NOT PRINTED: function 85 (slices_ContainsFunc_int64_int64)

/-! ### impl_power: function 89 -/
def impl_power.l0:Nat→Int→Int→Int→Int→Option (Int)
  |0,_,_,_,_=>none
  |k+1,x0,x1,x2,x7=>if x1 > 0 then (if (Int.tmod x1 2)=1 then (if x2=0 then (none) else (impl_power.l0 k (Int.tmod (wrap64 (x0*x0)) x2) (wrap64 (Int.tdiv x1 2)) x2 (Int.tmod (wrap64 (x7*x0)) x2))) else (if x2=0 then (none) else (impl_power.l0 k (Int.tmod (wrap64 (x0*x0)) x2) (wrap64 (Int.tdiv x1 2)) x2 x7))) else (some x7)
def impl_power.f (k:Nat) (a0:Int) (a1:Int) (a2:Int):Option (Int):=if a2=0 then (none) else ((impl_around.f a0 a2).bind fun t252=>(impl_power.l0 k t252 a1 a2 ((1:Int) % a2)))
theorem impl_power.mono_l:∀k,(∀y0 y1 y2 y3,LeO (impl_power.l0 k y0 y1 y2 y3) (impl_power.l0 (k+1) y0 y1 y2 y3))
  |0=>fun _ _ _ _ r h=>by simp [impl_power.l0] at h
  |k+1=>by
    have ih0:=impl_power.mono_l k
    · intro y0 y1 y2 y3
      unfold impl_power.l0;repeat' first
      |(with_reducible exact ih0 _ _ _ _)
      |(with_reducible exact LeO.refl _)
      |(with_reducible exact LeO.none _)
      |(with_reducible refine LeO.ite ?_ ?_)
      |(with_reducible refine LeO.bind ?_ (fun _=>?_))
      |exact ih0 _ _ _ _
      |exact LeO.none _
      |refine LeO.ite ?_ ?_
      |refine LeO.bind ?_ (fun _=>?_)
theorem impl_power.mono:∀a0 a1 a2 k,LeO (impl_power.f k a0 a1 a2) (impl_power.f (k+1) a0 a1 a2):=by
  intro a0 a1 a2 k;have ih0:=impl_power.mono_l k;unfold impl_power.f;repeat' first
      |(with_reducible exact ih0 _ _ _ _)
      |(with_reducible exact LeO.refl _)
      |(with_reducible exact LeO.none _)
      |(with_reducible refine LeO.ite ?_ ?_)
      |(with_reducible refine LeO.bind ?_ (fun _=>?_))
      |exact ih0 _ _ _ _
      |exact LeO.none _
      |refine LeO.ite ?_ ?_
      |refine LeO.bind ?_ (fun _=>?_)
set_option maxHeartbeats 8000000 in
set_option maxRecDepth 100000 in
theorem impl_power.calls (k:Nat) (a0:Int) (a1:Int) (a2:Int) (r:Int) (w:World) (h:impl_power.f k a0 a1 a2=some r):
    Calls Try.prog 89 #[.int .i64 a0,.int .i64 a1,.int .i64 a2] w fun e w'=>e=.returned (.int .i64 r)∧Drawn0 w w':=by
  have H:(if a2=0 then (none) else ((impl_around.f a0 a2).bind fun t252=>(impl_power.l0 k t252 a1 a2 ((1:Int) % a2))))=some r:=h;clear h
  by_cases c4:a2=0
  · rw [if_pos c4] at H
    exact absurd H (by simp)
  · rw [if_neg c4] at H
    have c4b0:(a2==0)=false:=beq_eq_false_iff_ne.mpr c4;have c4b1:(a2 !=0)=true:=bne_iff_ne.mpr c4;replace H:=qOb H;obtain⟨t252,A50,H⟩:=H;replace H:(impl_power.l0 k t252 a1 a2 ((1:Int) % a2))=some r:=H;have A5:=qAm A50;clear A50;have H':=qAm H;clear H;go_enter Try.func89,Try.ntmps89;go_wp2_with (first|((with_reducible refine gate_callee (f:=88) rfl ?_);refine goesL_ (some 12) rfl rfl Try.func88 (by kernel_rfl) rfl #[.int .i64 a0,.int .i64 a2] rfl qB17 ?_;(with_reducible refine(impl_around.calls a0 a2 t252 _ A5.1).mono ?_);rintro e w' ⟨rfl,⟨nd,rfl⟩⟩;refine⟨_,rfl,?_⟩));try simp only [Act.put,qSa,qSc,qSb]
    go_loopg [0,1,7] k (fun kq v0 v1 v7 w'=>∃(x0_1:Int) (x1_1:Int) (x7_1:Int),v0=.int .i64 x0_1∧v1=.int .i64 x1_1∧v7=.int .i64 x7_1∧Aside0 (impl_power.l0 kq x0_1 x1_1 a2 x7_1=some r)∧Aside0 (kq≤k)∧Drawn0 w w')
    case atStart=>exact⟨(t252),(a1),((1:Int) % a2),qB52,qB52,qB52,H',⟨Nat.le_refl _⟩,by repeat(first|exact Drawn0.refl _|apply Drawn0.step)⟩
    case round=>
      clear H';try clear p2
      try clear c4
      try clear c4b0
      try clear c4b1
      obtain⟨x0_1,x1_1,x7_1,rfl,rfl,rfl,HA,HK1,⟨m1,rfl⟩⟩:=hrel;cases gk with
      |zero=>exact absurd HA.1 (by simp [impl_power.l0])
      |succ k1=>
        have H:=HA.1;clear HA;simp only [impl_power.l0] at H
        by_cases c6:x1_1 > 0
        · rw [if_pos c6] at H
          have c6b0:decide (0<x1_1)=true:=decide_eq_true c6;clear c6
          by_cases c7:(Int.tmod x1_1 2)=1
          · rw [if_pos c7] at H
            have c7b0:((Int.tmod x1_1 2)==1)=true:=beq_iff_eq.mpr c7;have c7b1:((Int.tmod x1_1 2) !=1)=false:=bne_eq_false_iff_eq.mpr c7;clear c7
            by_cases c8:a2=0
            · rw [if_pos c8] at H
              exact absurd H (by simp)
            · rw [if_neg c8] at H
              have c8b0:(a2==0)=false:=beq_eq_false_iff_ne.mpr c8;have c8b1:(a2 !=0)=true:=bne_iff_ne.mpr c8;have H':=qAm H;clear H;go_wp2
              (first|go_roundg k1|((try simp only [add_plain] at *);go_roundg k1))
              case measure=>have:=HK1.1;omega
              case rel=>exact⟨(Int.tmod (wrap64 (x0_1*x0_1)) a2),(wrap64 (Int.tdiv x1_1 2)),(Int.tmod (wrap64 (x7_1*x0_1)) a2),qB52,qB52,qB52,H',⟨by have:=HK1.1;omega⟩,by repeat(first|exact Drawn0.refl _|apply Drawn0.step)⟩
          · rw [if_neg c7] at H
            have c7b0:((Int.tmod x1_1 2)==1)=false:=beq_eq_false_iff_ne.mpr c7;have c7b1:((Int.tmod x1_1 2) !=1)=true:=bne_iff_ne.mpr c7
            by_cases c9:a2=0
            · rw [if_pos c9] at H
              exact absurd H (by simp)
            · rw [if_neg c9] at H
              have c9b0:(a2==0)=false:=beq_eq_false_iff_ne.mpr c9;have c9b1:(a2 !=0)=true:=bne_iff_ne.mpr c9;have H':=qAm H;clear H;go_wp2
              (first|go_roundg k1|((try simp only [add_plain] at *);go_roundg k1))
              case measure=>have:=HK1.1;omega
              case rel=>exact⟨(Int.tmod (wrap64 (x0_1*x0_1)) a2),(wrap64 (Int.tdiv x1_1 2)),(x7_1),qB52,qB52,qB52,H',⟨by have:=HK1.1;omega⟩,by repeat(first|exact Drawn0.refl _|apply Drawn0.step)⟩
        · rw [if_neg c6] at H
          have c6b0:decide (0<x1_1)=false:=decide_eq_false c6;clear c6;obtain rfl:=Option.some.inj H;go_wp2;go_ret;exact⟨by first|rfl|(simp;done)|(simp [*];done),by repeat(first|exact Drawn0.refl _|apply Drawn0.step)⟩

/-! ### impl_anyOut: function 164 -/
-- HAND
def impl_anyOut.f (l0:List Int) (a1:Int):Option (Bool):=some (l0.any fun n_=>!(decide (0≤n_) && decide (n_≤wrap64 (a1 - 1))))

end Go.Proofs.Ytefhabkikaadiaa.PFnExactCycloAtResidues
