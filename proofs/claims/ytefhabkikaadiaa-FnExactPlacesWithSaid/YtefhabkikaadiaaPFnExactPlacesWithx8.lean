/- The functions that the law reaches, as plain functions, each with the proof that the program comes to it; no condition. Written by a program of this session (wip/mp.py) over the printing of the kit; what is marked HAND is told by hand. -/
import Derived.Test.YtefhabkikaadiaaPFnExactPlacesWithx0
import Derived.Test.YtefhabkikaadiaaPFnExactPlacesWithx4
import Derived.Test.YtefhabkikaadiaaPFnExactPlacesWithx5
import Derived.Test.YtefhabkikaadiaaPFnExactPlacesWithx6
import Derived.Test.YtefhabkikaadiaaPFnExactPlacesWithx7
namespace Go.Proofs.Ytefhabkikaadiaa.PFnExactPlacesWith
open Go.RowKit Go.Proofs.YtefhabkikaadiaaW.PrintWords Go.Proofs.YtefhabkikaadiaaW.PrintLast Go.Proofs.YtefhabkikaadiaaW.PrintMore
attribute [local go_sem] max2_int min2_int max_two min_two max_three min_three max_four min_four   -- for this text's walks alone
set_option linter.unusedVariables false
set_option linter.unusedSimpArgs false

/-! ### impl_rootsFor: function 60 -/
mutual
def impl_rootsFor.j0:Nat→Int→Int→Bool→Option (List Int×Bool)
  |0,_,_,_=>none
  |k+1,x0,x1,x22=>if x22=true then (some (([]:List Int),false)) else ((impl_cyclotomic.f k x0).bind fun t229=>(impl_rootsFor.l0 k x1 (([]:List Int)) t229 1))
def impl_rootsFor.l0:Nat→Int→List Int→List Int→Int→Option (List Int×Bool)
  |0,_,_,_,_=>none
  |k+1,x1,x6,x7,x8=>if x8<x1 then ((impl_valueAt.f k x7 x8 x1).bind fun t232=>(if t232=0 then (if x6.length<17592186044416 then (impl_rootsFor.l0 k x1 (x6 ++ [x8]) x7 (wrap64 (x8+1))) else (none)) else (impl_rootsFor.l0 k x1 x6 x7 (wrap64 (x8+1))))) else (some (x6,true))
end
def impl_rootsFor.f (k:Nat) (a0:Int) (a1:Int):Option (List Int×Bool):=(impl_isOrder.f a0).bind fun t223=>(if t223=true then ((impl_isPrime.f k a1).bind fun t224=>(if t224=true then ((impl_splits.f k a0 a1).bind fun t225=>(impl_rootsFor.j0 k a0 a1 (!t225))) else (impl_rootsFor.j0 k a0 a1 true))) else (impl_rootsFor.j0 k a0 a1 true))
theorem impl_rootsFor.mono_l:∀k,(∀y0 y1 y2,LeO (impl_rootsFor.j0 k y0 y1 y2) (impl_rootsFor.j0 (k+1) y0 y1 y2))∧(∀y0 y1 y2 y3,LeO (impl_rootsFor.l0 k y0 y1 y2 y3) (impl_rootsFor.l0 (k+1) y0 y1 y2 y3))
  |0=>⟨fun _ _ _ r h=>by simp [impl_rootsFor.j0] at h,fun _ _ _ _ r h=>by simp [impl_rootsFor.l0] at h⟩
  |k+1=>by
    obtain⟨ih0,ih1⟩:=impl_rootsFor.mono_l k;refine⟨?_,?_⟩
    · intro y0 y1 y2
      unfold impl_rootsFor.j0;repeat' first
      |(with_reducible exact ih0 _ _ _)
      |(with_reducible exact ih1 _ _ _ _)
      |(with_reducible exact impl_cyclotomic.mono _ _)
      |(with_reducible exact impl_isPrime.mono _ _)
      |(with_reducible exact impl_splits.mono _ _ _)
      |(with_reducible exact impl_valueAt.mono _ _ _ _)
      |(with_reducible exact LeO.refl _)
      |(with_reducible exact LeO.none _)
      |(with_reducible refine LeO.ite ?_ ?_)
      |(with_reducible refine LeO.bind ?_ (fun _=>?_))
      |exact ih0 _ _ _
      |exact ih1 _ _ _ _
      |exact impl_cyclotomic.mono _ _
      |exact impl_isPrime.mono _ _
      |exact impl_splits.mono _ _ _
      |exact impl_valueAt.mono _ _ _ _
      |exact LeO.none _
      |refine LeO.ite ?_ ?_
      |refine LeO.bind ?_ (fun _=>?_)
    · intro y0 y1 y2 y3
      unfold impl_rootsFor.l0;repeat' first
      |(with_reducible exact ih0 _ _ _)
      |(with_reducible exact ih1 _ _ _ _)
      |(with_reducible exact impl_cyclotomic.mono _ _)
      |(with_reducible exact impl_isPrime.mono _ _)
      |(with_reducible exact impl_splits.mono _ _ _)
      |(with_reducible exact impl_valueAt.mono _ _ _ _)
      |(with_reducible exact LeO.refl _)
      |(with_reducible exact LeO.none _)
      |(with_reducible refine LeO.ite ?_ ?_)
      |(with_reducible refine LeO.bind ?_ (fun _=>?_))
      |exact ih0 _ _ _
      |exact ih1 _ _ _ _
      |exact impl_cyclotomic.mono _ _
      |exact impl_isPrime.mono _ _
      |exact impl_splits.mono _ _ _
      |exact impl_valueAt.mono _ _ _ _
      |exact LeO.none _
      |refine LeO.ite ?_ ?_
      |refine LeO.bind ?_ (fun _=>?_)
theorem impl_rootsFor.mono:∀a0 a1 k,LeO (impl_rootsFor.f k a0 a1) (impl_rootsFor.f (k+1) a0 a1):=by
  intro a0 a1 k;obtain⟨ih0,ih1⟩:=impl_rootsFor.mono_l k;unfold impl_rootsFor.f;repeat' first
      |(with_reducible exact ih0 _ _ _)
      |(with_reducible exact ih1 _ _ _ _)
      |(with_reducible exact impl_cyclotomic.mono _ _)
      |(with_reducible exact impl_isPrime.mono _ _)
      |(with_reducible exact impl_splits.mono _ _ _)
      |(with_reducible exact impl_valueAt.mono _ _ _ _)
      |(with_reducible exact LeO.refl _)
      |(with_reducible exact LeO.none _)
      |(with_reducible refine LeO.ite ?_ ?_)
      |(with_reducible refine LeO.bind ?_ (fun _=>?_))
      |exact ih0 _ _ _
      |exact ih1 _ _ _ _
      |exact impl_cyclotomic.mono _ _
      |exact impl_isPrime.mono _ _
      |exact impl_splits.mono _ _ _
      |exact impl_valueAt.mono _ _ _ _
      |exact LeO.none _
      |refine LeO.ite ?_ ?_
      |refine LeO.bind ?_ (fun _=>?_)
set_option maxHeartbeats 8000000 in
set_option maxRecDepth 100000 in
theorem impl_rootsFor.calls (k:Nat) (a0:Int) (a1:Int) (r1:List Int) (r2:Bool) (w:World) (h:impl_rootsFor.f k a0 a1=some (r1,r2)):
    Calls Try.prog 60 #[.int .i64 a0,.int .i64 a1] w fun e w'=>∃v0_:Value,e=.returned (.tuple #[v0_,.bool r2])∧Kd.R (Kd.int .i64) 2 w' w.heap.size (fun _=>True) v0_ r1∧Below w.heap.size w w':=by
  have HB:=qAm (Below.refl w.heap.size w);have H:((impl_isOrder.f a0).bind fun t223=>(if t223=true then ((impl_isPrime.f k a1).bind fun t224=>(if t224=true then ((impl_splits.f k a0 a1).bind fun t225=>(impl_rootsFor.j0 k a0 a1 (!t225))) else (impl_rootsFor.j0 k a0 a1 true))) else (impl_rootsFor.j0 k a0 a1 true)))=some (r1,r2):=h;clear h;have HC3:=qAm H;clear H;go_enter Try.func60,Try.ntmps60;go_upto_region 1 with (fail)
  go_cut [22] (fun v22 wc=>∃(kq:Nat) (x22_2:Bool),v22=.bool x22_2∧Aside0 (impl_rootsFor.j0 kq a0 a1 x22_2=some (r1,r2))∧Aside0 (kq≤k)∧Aside0 (Below w.heap.size w wc))
  case first=>
    have H:=HC3.1;clear HC3;replace H:=qOb H;obtain⟨t223,A40,H⟩:=H;replace H:(if t223=true then ((impl_isPrime.f k a1).bind fun t224=>(if t224=true then ((impl_splits.f k a0 a1).bind fun t225=>(impl_rootsFor.j0 k a0 a1 (!t225))) else (impl_rootsFor.j0 k a0 a1 true))) else (impl_rootsFor.j0 k a0 a1 true))=some (r1,r2):=H;have A4:=qAm A40;clear A40
    by_cases c5:t223=true
    · subst c5
      have H1:((impl_isPrime.f k a1).bind fun t224=>(if t224=true then ((impl_splits.f k a0 a1).bind fun t225=>(impl_rootsFor.j0 k a0 a1 (!t225))) else (impl_rootsFor.j0 k a0 a1 true)))=some (r1,r2):=by rw [if_pos rfl] at H;exact H
      clear H;have H:=H1;clear H1;replace H:=qOb H;obtain⟨t224,A60,H⟩:=H;replace H:(if t224=true then ((impl_splits.f k a0 a1).bind fun t225=>(impl_rootsFor.j0 k a0 a1 (!t225))) else (impl_rootsFor.j0 k a0 a1 true))=some (r1,r2):=H;have A6:=qAm A60;clear A60
      by_cases c7:t224=true
      · subst c7
        have H1:((impl_splits.f k a0 a1).bind fun t225=>(impl_rootsFor.j0 k a0 a1 (!t225)))=some (r1,r2):=by rw [if_pos rfl] at H;exact H
        clear H;have H:=H1;clear H1;replace H:=qOb H;obtain⟨t225,A80,H⟩:=H;replace H:(impl_rootsFor.j0 k a0 a1 (!t225))=some (r1,r2):=H;have A8:=qAm A80;clear A80;have H':=qAm H;clear H;go_wp2_with (first|((with_reducible refine gate_callee (f:=103) rfl ?_);refine goesL_ (some 10) rfl rfl Try.func103 (by kernel_rfl) rfl #[.int .i64 a0] rfl qB14 ?_;(with_reducible refine(impl_isOrder.calls a0 true _ A4.1).mono ?_);rintro e w' ⟨rfl,⟨nd,rfl⟩⟩;refine⟨_,rfl,?_⟩)|(go_at_call 106;(with_reducible refine(impl_isPrime.calls k a1 true _ A6.1).mono ?_);rintro e w' ⟨rfl,⟨nd,rfl⟩⟩)|(go_at_call 107;(with_reducible refine(impl_splits.calls k a0 a1 t225 _ A8.1).mono ?_);rintro e w9 ⟨rfl,hb⟩;have n0_:=qAm (below_step qB15 hb);clear HB;have HB:=n0_;clear n0_;(try clear hb);(try clear hb2);(try clear hk);(try clear hi)));go_meet
        case rel=>exact⟨_,(!t225),qB41,H',⟨by first|omega|exact Nat.le_refl _⟩,⟨by repeat(first|(with_reducible first|exact HB.1|apply below_alloc|apply pw_below_drewN|apply below_drew1)|exact HB.1)⟩⟩
      · replace c7:=Bool.eq_false_iff.mpr c7
        subst c7;have H1:(impl_rootsFor.j0 k a0 a1 true)=some (r1,r2):=by rw [if_neg (show ¬(false=true) by decide)] at H;exact H
        clear H;have H:=H1;clear H1;have H':=qAm H;clear H;go_wp2_with (first|((with_reducible refine gate_callee (f:=103) rfl ?_);refine goesL_ (some 10) rfl rfl Try.func103 (by kernel_rfl) rfl #[.int .i64 a0] rfl qB14 ?_;(with_reducible refine(impl_isOrder.calls a0 true _ A4.1).mono ?_);rintro e w' ⟨rfl,⟨nd,rfl⟩⟩;refine⟨_,rfl,?_⟩)|(go_at_call 106;(with_reducible refine(impl_isPrime.calls k a1 false _ A6.1).mono ?_);rintro e w' ⟨rfl,⟨nd,rfl⟩⟩));go_meet
        case rel=>exact⟨_,(true),qB41,H',⟨by first|omega|exact Nat.le_refl _⟩,⟨by repeat(first|(with_reducible first|exact HB.1|apply below_alloc|apply pw_below_drewN|apply below_drew1)|exact HB.1)⟩⟩
    · replace c5:=Bool.eq_false_iff.mpr c5
      subst c5;have H1:(impl_rootsFor.j0 k a0 a1 true)=some (r1,r2):=by rw [if_neg (show ¬(false=true) by decide)] at H;exact H
      clear H;have H:=H1;clear H1;have H':=qAm H;clear H;go_wp2_with (first|((with_reducible refine gate_callee (f:=103) rfl ?_);refine goesL_ (some 10) rfl rfl Try.func103 (by kernel_rfl) rfl #[.int .i64 a0] rfl qB14 ?_;(with_reducible refine(impl_isOrder.calls a0 false _ A4.1).mono ?_);rintro e w' ⟨rfl,⟨nd,rfl⟩⟩;refine⟨_,rfl,?_⟩));go_meet
      case rel=>exact⟨_,(true),qB41,H',⟨by first|omega|exact Nat.le_refl _⟩,⟨by repeat(first|(with_reducible first|exact HB.1|apply below_alloc|apply pw_below_drewN|apply below_drew1)|exact HB.1)⟩⟩
  case rest=>
    clear HC3;try clear c1
    try clear p2
    try clear c5
    try clear c6
    try clear c7
    obtain⟨kq,x22_2,rfl,HA,HJ2,HB⟩:=hcut;cases kq with
    |zero=>exact absurd HA.1 (by simp [impl_rootsFor.j0])
    |succ kj2=>
      have H:=HA.1;clear HA;simp only [impl_rootsFor.j0] at H
      by_cases c10:x22_2=true
      · subst c10
        have H1:(some (([]:List Int),false))=some (r1,r2):=by rw [if_pos rfl] at H;exact H
        clear H;have H:=H1;clear H1;simp only [Option.some.injEq,Prod.mk.injEq] at H;obtain⟨rfl,rfl⟩:=H;go_wp2;go_ret2;exact⟨_,by first|rfl|(simp [errW_none,errW_some] <;> rfl)|(simp [*,errW_none,errW_some] <;> rfl),by first|exact Kd.R_nil _ _ _ _ _|exact Kd.N_nil _ _ _ _ _|exact Kd.V_nil _ _ _ _ _|exact Kd.Q_nil _ _ _ _ _|exact Kd.S_nil _ _ _ _ _,by repeat(first|(with_reducible first|exact HB.1|apply below_alloc|apply pw_below_drewN|apply below_drew1)|exact HB.1)⟩
      · replace c10:=Bool.eq_false_iff.mpr c10
        subst c10;have H1:((impl_cyclotomic.f kj2 a0).bind fun t229=>(impl_rootsFor.l0 kj2 a1 (([]:List Int)) t229 1))=some (r1,r2):=by rw [if_neg (show ¬(false=true) by decide)] at H;exact H
        clear H;have H:=H1;clear H1;obtain⟨y226,hy226⟩:∃y_:List Int,y_=(([]:List Int)):=⟨_,rfl⟩
        replace H:((impl_cyclotomic.f kj2 a0).bind fun t229=>(impl_rootsFor.l0 kj2 a1 y226 t229 1))=some (r1,r2):=by first|(rw [hy226];with_reducible exact H)|(have H2_:=(Option.bind_some _ _).symm.trans H;rw [hy226];with_reducible exact H2_)|(have H2_:=(Option.bind_some _ _).symm.trans H;with_reducible exact H2_)|with_reducible exact H|(rw [hy226];exact H)|exact H
        have Ny226:=qAm hy226;clear hy226;replace H:=qOb H;obtain⟨t229,A110,H⟩:=H;replace H:(impl_rootsFor.l0 kj2 a1 y226 t229 1)=some (r1,r2):=H;have A11:=qAm A110;clear A110;have H':=qAm H;clear H;go_wp2_with (first|((with_reducible refine gate_dst (N:=23) rfl ?_);refine Kd.R_lit (Kd.int .i64) _ 2 ?hg (N:=23) ?hd (xs:=([]:List Int)) (inner:=[]) (ok:=fun _=>True) (okp:=fun _=>True) ?hr ?hp (fun _ hk=>hk) trivial (Below.refl _ _) (Nat.le_refl _) (by simp) ?_;(case hd=>rfl);(case hg=>rfl);(case hr=>first|(go_simp;done)|(go_simp;rfl));(case hp=>exact(Reps.none _ _));intro v227 w12 ho13 hb hg_ hnew_;clear hg_ hnew_;(first|rw [← Ny226.1] at ho13|(simp only [Int.reduceToNat] at ho13;rw [← Ny226.1] at ho13));have n0_:=qAm (Kd.R_lower ho13 (below_size qB15));have n1_:=qAm (below_step qB15 hb);clear HB;have HO228:=n0_;have HB:=n1_;clear n0_ n1_;clear hb ho13)|((with_reducible refine gate_callee (f:=108) rfl ?_);refine goesL_ (some 25) rfl rfl Try.func108 (by kernel_rfl) rfl #[.int .i64 a0] rfl qB14 ?_;(with_reducible refine(impl_cyclotomic.calls kj2 a0 t229 _ A11.1).mono ?_);rintro e w14 ⟨v230,rfl,ho0,hb⟩;refine⟨_,rfl,?_⟩;have n0_:=qAm (Kd.R_elder' qB32 (Kd.R_base ho0) hb);have n1_:=qAm (Kd.R_lower (Kd.R_new' ho0 (Kd.R_lt qB32)) (below_size qB15));have n2_:=qAm (below_step qB15 hb);clear HO228;clear HB;have HO228:=n0_;have HO231:=n1_;have HB:=n2_;clear n0_ n1_ n2_;(try clear hb);(try clear hb2);(try clear hk);(try clear hi);(try clear ho0)));try simp only [Act.put,qSa,qSc,qSb]
        go_loopg [6,8] kj2 (fun kq v6 v8 w'=>∃(x6_2:List Int) (x8_2:Int),v8=.int .i64 x8_2∧Aside0 (impl_rootsFor.l0 kq a1 x6_2 t229 x8_2=some (r1,r2))∧Aside0 (kq≤kj2)∧Aside0 (Kd.R (Kd.int .i64) 2 w' w.heap.size (fun k_=>some k_≠(v230:Value).ownBlock) v6 x6_2)∧Aside0 (Kd.R (Kd.int .i64) 2 w' w.heap.size (fun k_=>some k_≠(v6:Value).ownBlock) v230 t229)∧Aside0 (Below w.heap.size w w'))
        case atStart=>exact⟨(y226),(1),qB41,H',⟨Nat.le_refl _⟩,⟨by (with_reducible repeat(first|apply Kd.R_alloc|apply Kd.R_drewN|apply Kd.R_drew));exact Kd.R_mono HO228.1 (fun _ hk=>hk.2)⟩,⟨by (with_reducible repeat(first|apply Kd.R_alloc|apply Kd.R_drewN|apply Kd.R_drew));exact Kd.R_mono HO231.1 (fun _ hk=>hk.2)⟩,⟨by repeat(first|(with_reducible first|exact HB.1|apply below_alloc|apply pw_below_drewN|apply below_drew1)|exact HB.1)⟩⟩
        case round=>
          clear H';try clear c1
          try clear p2
          try clear c5
          try clear c6
          try clear c7
          try clear c10
          try clear p2
          obtain⟨x6_2,x8_2,rfl,HA,HK2,HO_6,HO_7,HB⟩:=hrel;cases gk with
          |zero=>exact absurd HA.1 (by simp [impl_rootsFor.l0])
          |succ k2=>
            have H:=HA.1;clear HA;simp only [impl_rootsFor.l0] at H
            by_cases c15:x8_2<a1
            · rw [if_pos c15] at H
              have c15b0:decide (x8_2<a1)=true:=decide_eq_true c15;clear c15;replace H:=qOb H;obtain⟨t232,A160,H⟩:=H;replace H:(if t232=0 then (if x6_2.length<17592186044416 then (impl_rootsFor.l0 k2 a1 (x6_2 ++ [x8_2]) t229 (wrap64 (x8_2+1))) else (none)) else (impl_rootsFor.l0 k2 a1 x6_2 t229 (wrap64 (x8_2+1))))=some (r1,r2):=H;have A16:=qAm A160;clear A160
              by_cases c17:t232=0
              · rw [if_pos c17] at H
                have c17b0:(t232==0)=true:=beq_iff_eq.mpr c17;have c17b1:(t232 !=0)=false:=bne_eq_false_iff_eq.mpr c17;clear c17
                by_cases c18:x6_2.length<17592186044416
                · rw [if_pos c18] at H
                  have LMc18:=qAm c18;clear c18;obtain⟨y233,hy233⟩:∃y_:List Int,y_=(x6_2 ++ [x8_2]):=⟨_,rfl⟩
                  replace H:(impl_rootsFor.l0 k2 a1 y233 t229 (wrap64 (x8_2+1)))=some (r1,r2):=by first|(rw [hy233];with_reducible exact H)|(have H2_:=(Option.bind_some _ _).symm.trans H;rw [hy233];with_reducible exact H2_)|(have H2_:=(Option.bind_some _ _).symm.trans H;with_reducible exact H2_)|with_reducible exact H|(rw [hy233];exact H)|exact H
                  have Ny233:=qAm hy233;clear hy233;have H':=qAm H;clear H;obtain⟨Ao19,co19,eo19⟩:=Kd.R_slice HO_7.1;subst eo19;go_wp2_with (first|((with_reducible refine gate_callee (f:=63) rfl ?_);refine goesL_ (some 34) rfl rfl Try.func63 (by kernel_rfl) rfl #[.slice Ao19 t229.length co19,.int .i64 x8_2,.int .i64 a1] rfl qB14 ?_;(with_reducible refine(impl_valueAt.calls k2 _ _ t229 x8_2 a1 t232 _ ?side1 ?side2 A16.1).mono ?_);(case side1=>repeat(first|exact(Kd.R_reads' HO_7.1).2.2|(with_reducible refine Kd.C_alloc ?_ _)|(with_reducible refine Kd.C_drewN ?_ _)|(with_reducible refine Kd.C_drew ?_)));(case side2=>exact(Kd.R_reads' HO_7.1).2.1);rintro e w' ⟨rfl,⟨nd,rfl⟩⟩;refine⟨_,rfl,?_⟩)|((with_reducible refine gate_builtin (b:=.append) (xs:=#[.tmp 36,.tmp 38]) rfl ?_);at_builtin;refine Kd.R_append (Kd.int .i64) (w0:=w) w.heap.size rfl (.tmp 36) (.tmp 38) 22 2 (.int .i64 0) 8 rfl Try.underlying22 info2 rfl (by decide) (by omega) u6 x6_2 x8_2 [.int .i64 x8_2] (fun k_=>some k_≠(.slice Ao19 t229.length co19:Value).ownBlock) (fun _=>False) rfl rfl ?aP (fun _ hk=>hk.elim) ?aF ?aO ?aB ?aS ?aL ?_;(case aP=>exact rfl);(case aB=>exact qB15);(case aF=>exact(fun k_ hk=>Kd.fresh' (Kd.R_lt qB38) k_ hk));(case aO=>exact qB37);(case aS=>exact(below_size qB15));(case aL=>have:=LMc18.1;omega);intro v234 w20 ho hb hg hat;rw [← Ny233.1] at ho;have n0_:=qAm (Kd.R_after (ok:=(fun _=>True)) (by (with_reducible repeat(first|apply Kd.R_alloc|apply Kd.R_drewN|apply Kd.R_drew));exact Kd.R_mono HO_7.1 (fun _ hk=>⟨trivial,hk⟩)) hg hat);have n1_:=qAm (hb);have n2_:=qAm (ho);clear HO_7;clear HB;clear HO_6;have HO_7:=n0_;have HB:=n1_;have HO235:=n2_;clear n0_ n1_ n2_;clear ho hb hg hat))
                  (first|go_roundg k2|((try simp only [add_plain] at *);go_roundg k2))
                  case measure=>have:=HJ2.1;have:=HK2.1;omega
                  case rel=>exact⟨(y233),(wrap64 (x8_2+1)),qB41,H',⟨by have:=HJ2.1;have:=HK2.1;omega⟩,⟨by (with_reducible repeat(first|apply Kd.R_alloc|apply Kd.R_drewN|apply Kd.R_drew));exact HO235.1⟩,⟨by (with_reducible repeat(first|apply Kd.R_alloc|apply Kd.R_drewN|apply Kd.R_drew));exact Kd.R_mono HO_7.1 (fun _ hk=>hk.2)⟩,⟨by repeat(first|(with_reducible first|exact HB.1|apply below_alloc|apply pw_below_drewN|apply below_drew1)|exact HB.1)⟩⟩
                · rw [if_neg c18] at H
                  exact absurd H (by simp)
              · rw [if_neg c17] at H
                have c17b0:(t232==0)=false:=beq_eq_false_iff_ne.mpr c17;have c17b1:(t232 !=0)=true:=bne_iff_ne.mpr c17;have H':=qAm H;clear H;obtain⟨Ao21,co21,eo21⟩:=Kd.R_slice HO_7.1;subst eo21;go_wp2_with (first|((with_reducible refine gate_callee (f:=63) rfl ?_);refine goesL_ (some 34) rfl rfl Try.func63 (by kernel_rfl) rfl #[.slice Ao21 t229.length co21,.int .i64 x8_2,.int .i64 a1] rfl qB14 ?_;(with_reducible refine(impl_valueAt.calls k2 _ _ t229 x8_2 a1 t232 _ ?side1 ?side2 A16.1).mono ?_);(case side1=>repeat(first|exact(Kd.R_reads' HO_7.1).2.2|(with_reducible refine Kd.C_alloc ?_ _)|(with_reducible refine Kd.C_drewN ?_ _)|(with_reducible refine Kd.C_drew ?_)));(case side2=>exact(Kd.R_reads' HO_7.1).2.1);rintro e w' ⟨rfl,⟨nd,rfl⟩⟩;refine⟨_,rfl,?_⟩))
                (first|go_roundg k2|((try simp only [add_plain] at *);go_roundg k2))
                case measure=>have:=HJ2.1;have:=HK2.1;omega
                case rel=>exact⟨(x6_2),(wrap64 (x8_2+1)),qB41,H',⟨by have:=HJ2.1;have:=HK2.1;omega⟩,⟨by (with_reducible repeat(first|apply Kd.R_alloc|apply Kd.R_drewN|apply Kd.R_drew));exact HO_6.1⟩,⟨by (with_reducible repeat(first|apply Kd.R_alloc|apply Kd.R_drewN|apply Kd.R_drew));exact HO_7.1⟩,⟨by repeat(first|(with_reducible first|exact HB.1|apply below_alloc|apply pw_below_drewN|apply below_drew1)|exact HB.1)⟩⟩
            · rw [if_neg c15] at H
              have c15b0:decide (x8_2<a1)=false:=decide_eq_false c15;clear c15;simp only [Option.some.injEq,Prod.mk.injEq] at H;obtain⟨rfl,rfl⟩:=H;go_wp2;go_ret2;exact⟨_,by first|rfl|(simp [errW_none,errW_some] <;> rfl)|(simp [*,errW_none,errW_some] <;> rfl),by (with_reducible repeat(first|apply Kd.R_alloc|apply Kd.R_drewN|apply Kd.R_drew));exact Kd.R_mono HO_6.1 (fun _ hk=>trivial),by repeat(first|(with_reducible first|exact HB.1|apply below_alloc|apply pw_below_drewN|apply below_drew1)|exact HB.1)⟩

-- NOT PRINTED: function 61 (slices_DeleteFunc_int64_int64)

/-! ### impl_PlacesWith: function 12 -/
-- HAND
/-- The roots at which the parts have the value 0. -/
def hpw_f (k:Nat) (parts:List Int) (l:Int):List Int→Option (List Int)
  |[]=>some []
  |x::xs=>(impl_valueAt.f k parts x l).bind fun r=>(hpw_f k parts l xs).bind fun s=>some (if r=0 then x::s else s)
theorem hpw_f.mono:∀parts l xs k,LeO (hpw_f k parts l xs) (hpw_f (k+1) parts l xs)
  |parts,l,[],k=>LeO.refl _
  |parts,l,x::xs,k=>by
    unfold hpw_f;exact LeO.bind (impl_valueAt.mono _ _ _ _) (fun _=>LeO.bind (hpw_f.mono parts l xs k) (fun _=>LeO.refl _))
theorem hpw_total0 (parts:List Int) (x l:Int) (hl:l≠0) (hp:parts.length≤1000000):∀(n k:Nat) (o:Int),n≤parts.length→n<k→∃r,impl_valueAt.l0 k parts x l o ((n:Int) - 1)=some r:=by
  intro n
  induction n with
  |zero=>
    intro k o _ hk;obtain⟨j,rfl⟩:∃j,k=j+1:=⟨k - 1,by omega⟩
    refine⟨o,?_⟩;simp only [impl_valueAt.l0];rw [if_neg (by omega)]
  |succ n ih=>
    intro k o hn hk;obtain⟨j,rfl⟩:∃j,k=j+1:=⟨k - 1,by omega⟩
    simp only [impl_valueAt.l0];rw [if_pos (by omega),if_pos (by omega),if_pos (by omega),if_neg hl];unfold impl_around.f;rw [if_neg hl,Option.bind_some,show wrap64 (((n+1:Nat):Int) - 1 - 1)=(n:Int) - 1 by unfold wrap64;omega];exact ih j _ (by omega) (by omega)
theorem hpw_total (parts:List Int) (x l:Int) (hl:l≠0) (hp:parts.length≤1000000) (k:Nat) (hk:parts.length<k):∃r,impl_valueAt.f k parts x l=some r:=by
  unfold impl_valueAt.f;rw [show wrap64 ((parts.length:Int) - 1)=(parts.length:Int) - 1 by unfold wrap64;omega];exact hpw_total0 parts x l hl hp parts.length k 0 (Nat.le_refl _) hk
theorem hpw_more (parts:List Int) (x l r:Int) (k:Nat) (h:impl_valueAt.f k parts x l=some r):∀m,impl_valueAt.f (k+m) parts x l=some r
  |0=>h
  |m+1=>impl_valueAt.mono parts x l (k+m) r (hpw_more parts x l r k h m)
def hpw_p (K:Nat) (parts:List Int) (l x:Int):Bool:=match impl_valueAt.f K parts x l with|some r=>!(decide (r=0))|none=>false
theorem hpw_list (k m:Nat) (parts:List Int) (l:Int):∀(xs s:List Int),hpw_f k parts l xs=some s→s=xs.filter fun x=>!(hpw_p (k+m) parts l x)
  |[],s,h=>by
    simp only [hpw_f,Option.some.injEq] at h;exact h.symm
  |x::xs,s,h=>by
    unfold hpw_f at h;obtain⟨r,h1,h2⟩:=qOb h;obtain⟨t,h3,h4⟩:=qOb h2;have e:=hpw_more parts x l r k h1 m;have e2:hpw_p (k+m) parts l x=!(decide (r=0)):=by unfold hpw_p;rw [e]
    rw [List.filter_cons,e2,← hpw_list k m parts l xs t h3];have h5:=Option.some.inj h4;rw [← h5]
    by_cases c:r=0 <;> simp [c]
theorem hpw_cl (K:Nat) (x l:Int) (r:Bool) (a0:Int) (A:Option Addr) (c gx gl:Nat) (parts:List Int) (W:World) (hx1:W.cell? ⟨gx,1,none⟩=some (.slice A parts.length c)) (hl:W.cell? ⟨gl,0,none⟩=some (.int .i64 l))
    (hr:Kd.C (Kd.int .i64) W A parts.length parts) (hc:parts.length≤c) (ht:∃v,impl_valueAt.f K parts x l=some v):
    Calls Try.prog 62 #[.int .i64 x,.pointer (some ⟨gx,0,none⟩),.pointer (some ⟨gl,0,none⟩)] W fun e w'=>e=.returned (.bool (hpw_p K parts l x))∧∃q,w'=W.drewN q:=by
  obtain⟨v,hv⟩:=ht;have e:hpw_p K parts l x=!(decide (v=0)):=by unfold hpw_p;rw [hv]
  rw [e];have HR:=qAm hr;have HC:=qAm hc;have HV:=qAm hv;clear hr hc hv e;go_enter Try.func62,Try.ntmps62;go_wp2_with (go_at_call 63;refine(impl_valueAt.calls K A c parts x l v _ HR.1 HC.1 HV.1).mono ?_;rintro e w' ⟨rfl,⟨nd,rfl⟩⟩);go_ret;exact⟨by simp;by_cases c:v=0 <;> simp [c],_,rfl⟩
theorem hpw_delete {k:Nat} {w W:World} {base g cap gx gl:Nat} {ok:Nat→Prop} {rs s parts:List Int} {a0 l:Int} {A:Option Addr} {c:Nat}
    (HO:Kd.R (Kd.int .i64) 2 W base ok (.slice (some ⟨g,0,none⟩) rs.length cap) rs) (hrs:rs.length≤1000000) (hl0:l≠0) (hpl:parts.length≤1000000)
    (hx:W.heap[gx]? =some (.cells #[.int .i64 a0,.slice A parts.length c] 28 (0,0))) (hgx:gx≠g)
    (hL:W.heap[gl]? =some (.cells #[.int .i64 l] 2 (0,0))) (hgl:gl≠g)
    (hr:Kd.C (Kd.int .i64) w A parts.length parts) (hc:parts.length≤c) (hw:Below w.heap.size w W) (hg:w.heap.size≤g) (hf:hpw_f k parts l rs=some s):
    Calls Try.prog 61 #[.slice (some ⟨g,0,none⟩) rs.length cap,.func (.func 62) #[] #[.pointer (some ⟨gx,0,none⟩),.pointer (some ⟨gl,0,none⟩)]] W fun e w'=>∃v,e=.returned v∧Kd.R (Kd.int .i64) 2 w' base ok v s∧W.grownBy w' (some g):=by
  have hok:=HO.1;have hown:=Kd.own_of_R HO;obtain⟨K,hK⟩:∃K,K=k+(parts.length+1):=⟨_,rfl⟩
  have tot:∀x,∃v,impl_valueAt.f K parts x l=some v:=fun x=>hpw_total parts x l hl0 hpl K (by omega)
  rcases hown.2 with ⟨h',_⟩|⟨g',cap',cur,h',hb,hh,hc1,hc2,hc3,hc4⟩
  · cases h'
  · have hgg:g=g':=by injection h' with h';injection h' with h';injection h' with h'
    have hcc:cap=cap':=by injection h'
    subst hgg hcc;have ht:cur.toList.take rs.length=rs.map (Value.int .i64):=by simpa [encs] using hc4
    have hH:=holds_of_blockI hh ht;have eg:∀args w,(callFunc 62 args).run Try.prog w=.ok (.enter 62 args) w:=Go.Proofs.enters_of Try.func62 (by kernel_rfl) rfl;have hp:PredAt Try.prog 62 #[.pointer (some ⟨gx,0,none⟩),.pointer (some ⟨gl,0,none⟩)] (Value.int .i64) (hpw_p K parts l) W:=fun W' x hb'=>
      hpw_cl K x l true a0 A c gx gl parts W' ((blk_cell (blk_below hx hb') 1).trans rfl) ((blk_cell (blk_below hL hb') 0).trans rfl) (Kd.C_below hr (below_step hw hb')) hc (tot x)
    have hpo:PredOver Try.prog 62 #[.pointer (some ⟨gx,0,none⟩),.pointer (some ⟨gl,0,none⟩)] (Value.int .i64) (hpw_p K parts l) g 0 rs.toArray.size W:=fun n os dk x _=>by
      have hgr:W.grownBy (Go.Proofs.sortWorld (Value.int .i64) W g 0 n dk os) (some g):=grownBy_sortedI (n:=n) (os:=os) dk;exact hpw_cl K x l true a0 A c gx gl parts _ ((blk_cell (blk_grown hx hgr (fun e=>hgx (Option.some.inj e))) 1).trans rfl) ((blk_cell (blk_grown hL hgr (fun e=>hgl (Option.some.inj e))) 0).trans rfl) (Kd.C_below hr (Below.grown hw hgr (below_size hw) (fun k_ e_=>by cases e_;exact hg))) hc (tot x)
    have hcl:=AnyE.slices_DeleteFunc Try.laysDelete (Value.int .i64) (fun _=>rfl) (hpw_p K parts l) 62 #[.pointer (some ⟨gx,0,none⟩),.pointer (some ⟨gl,0,none⟩)] eg (0:Int) (fun w=>Try.zeroValue2 w) g 0 cap rs.toArray W hp hpo hH (by simp;omega) (by simpa using hc1)
    change Calls Try.prog 61 _ _ _ at hcl
    rw [List.size_toArray] at hcl;refine hcl.mono ?_;rintro e w' ⟨rfl,q,rfl⟩;have es:=hpw_list k (parts.length+1) parts l rs s hf;rw [← hK] at es;have es2:(rs.toArray.toList.filter fun x=>!hpw_p K parts l x)=s:=es.symm;rw [es2];have hsl:s.length≤rs.length:=by rw [es];exact List.length_filter_le _ _
    have hp2:(s ++ List.replicate (rs.length - s.length) (0:Int)).length=rs.length:=by simp;omega
    have h1:=ownsRow_sortedI (n:=q) (os:=#[]) (base:=base) hp2 hb hh hc1 hc2 hc3;rw [Go.Sort.grow_empty] at h1;have h2:Kd.R (Kd.int .i64) 2 (Go.Sort.putRow (Value.int .i64) (Go.Sort.ahead W q) g 0 (s ++ List.replicate (rs.length - s.length) (0:Int)).toArray) base ok (.slice (some ⟨g,0,none⟩) rs.length cap) (s ++ List.replicate (rs.length - s.length) (0:Int)):=by
      refine Kd.R_of_own ?_ hok;rw [hp2];exact h1
    have h3:=Kd.R_take h2 (m:=s.length) (by omega);rw [List.take_left'] at h3
    · have hg:=grownBy_sortedI (n:=q) (os:=#[]) (w:=W) (g:=g) (s ++ List.replicate (rs.length - s.length) (0:Int)).toArray
      rw [Go.Sort.grow_empty] at hg;exact⟨_,rfl,h3,hg⟩
    · rfl
def impl_PlacesWith.f (k:Nat) (a0_0:Int) (l0_1:List Int) (a1:Int):Option (List Int×Int):=(impl_IsCyclo.f k a0_0 l0_1).bind fun t=>if t=true then ((impl_rootsFor.f k a0_0 a1).bind fun b=>if b.2=true then (if 0<b.1.length∧b.1.length≤1000000∧a1≠0∧l0_1.length≤1000000 then ((hpw_f k l0_1 a1 b.1).bind fun s=>some (s,0)) else none) else some ([],2)) else some ([],1)
theorem impl_PlacesWith.mono:∀a0 a1 a2 k,LeO (impl_PlacesWith.f k a0 a1 a2) (impl_PlacesWith.f (k+1) a0 a1 a2):=by
  intro a0 a1 a2 k;unfold impl_PlacesWith.f;repeat' first
      |(with_reducible exact impl_IsCyclo.mono _ _ _)
      |(with_reducible exact LeO.refl _)
      |(with_reducible exact LeO.none _)
      |(with_reducible refine LeO.ite ?_ ?_)
      |(with_reducible refine LeO.bind ?_ (fun _=>?_))
      |exact impl_IsCyclo.mono _ _ _
      |apply impl_rootsFor.mono
      |apply hpw_f.mono
      |exact LeO.none _
      |refine LeO.ite ?_ ?_
      |refine LeO.bind ?_ (fun _=>?_)
set_option maxHeartbeats 8000000 in
set_option maxRecDepth 100000 in
theorem impl_PlacesWith.calls (k:Nat) (a0_0:Int) (A0_1:Option Addr) (c0_1:Nat) (l0_1:List Int) (a1:Int) (r1:List Int) (r2:Int) (w:World) (hr0_1:Kd.C (Kd.int .i64) w A0_1 l0_1.length l0_1) (hc0_1:l0_1.length≤c0_1) (h:impl_PlacesWith.f k a0_0 l0_1 a1=some (r1,r2)):
    Calls Try.prog 12 #[.agg #[.int .i64 a0_0,.slice A0_1 l0_1.length c0_1],.int .i64 a1] w fun e w'=>∃v0_:Value,e=.returned (.tuple #[v0_,.int .i64 r2])∧Kd.R (Kd.int .i64) 2 w' w.heap.size (fun _=>True) v0_ r1∧Below w.heap.size w w':=by
  have HR0:=qAm hr0_1;have HC0:=qAm hc0_1;have HB:=qAm (Below.refl w.heap.size w);clear hr0_1 hc0_1;unfold impl_PlacesWith.f at h;obtain⟨t,A1,H⟩:=qOb h;replace A1:=qAm A1;clear h;cases t with
  |false=>
    simp only [Bool.false_eq_true,if_false,Option.some.injEq,Prod.mk.injEq] at H;obtain⟨rfl,rfl⟩:=H;go_enter Try.func12,Try.ntmps12;go_wp2_with (first|((with_reducible refine gate_dst (N:=2) rfl ?_);refine box_event ?hg (N:=2) ?hd (cs:=#[.int .i64 a0_0,.slice A0_1 l0_1.length c0_1]) (t:=28) ?hr ?_;(case hd=>rfl);(case hg=>rfl);(case hr=>first|(go_simp;done)|(go_simp;rfl));intro gx hg wx hbox hb;have Gx:=qAm (by rw [hg];exact below_size HB.1:w.heap.size≤gx);have hgs_:=hg;have mHB_:=qAm (below_step HB.1 hb);clear HB;have HB:=mHB_;clear mHB_;have Bx:=qAm hbox;clear hbox;have cwxx_0:wx.cell? ⟨gx,0,none⟩=some (.int .i64 a0_0):=(blk_cell Bx.1 0).trans rfl;have fwxx_0:=blk_frozen Bx.1 0;have cwxx_1:wx.cell? ⟨gx,1,none⟩=some (.slice A0_1 l0_1.length c0_1):=(blk_cell Bx.1 1).trans rfl;have fwxx_1:=blk_frozen Bx.1 1;clear hb hg hgs_)|((with_reducible refine gate_dst (N:=3) rfl ?_);refine box_event ?hg (N:=3) ?hd (cs:=#[.int .i64 a1]) (t:=2) ?hr ?_;(case hd=>rfl);(case hg=>rfl);(case hr=>first|(go_simp;done)|(go_simp;rfl));intro gl hg wl hbox hb;have Gl:=qAm (by rw [hg];exact below_size HB.1:w.heap.size≤gl);have Nx_l:=qAm (by rw [hg];exact Nat.ne_of_lt (blk_lt (g:=gx) (o:=.cells #[.int .i64 a0_0,.slice A0_1 l0_1.length c0_1] 28 (0,0)) Bx.1):gx≠gl);have hgs_:=hg;have mBx_:=qAm (blk_below (g:=gx) (o:=.cells #[.int .i64 a0_0,.slice A0_1 l0_1.length c0_1] 28 (0,0)) Bx.1 hb);have mHB_:=qAm (below_step HB.1 hb);clear Bx HB;have Bx:=mBx_;have HB:=mHB_;clear mBx_ mHB_;have Bl:=qAm hbox;clear hbox;have cwlx_0:wl.cell? ⟨gx,0,none⟩=some (.int .i64 a0_0):=(blk_cell Bx.1 0).trans rfl;have fwlx_0:=blk_frozen Bx.1 0;have cwlx_1:wl.cell? ⟨gx,1,none⟩=some (.slice A0_1 l0_1.length c0_1):=(blk_cell Bx.1 1).trans rfl;have fwlx_1:=blk_frozen Bx.1 1;have cwll_0:wl.cell? ⟨gl,0,none⟩=some (.int .i64 a1):=(blk_cell Bl.1 0).trans rfl;have fwll_0:=blk_frozen Bl.1 0;have nx_l:=Nx_l.1;have ox_l:=Nx_l.1.symm;clear hb hg hgs_)|(go_at_call 59;refine(impl_IsCyclo.calls k a0_0 _ _ l0_1 _ _ (Kd.C_below HR0.1 HB.1) HC0.1 A1.1).mono ?_;rintro e w2 ⟨rfl,hb⟩;have mBx_:=qAm (blk_below (g:=gx) (o:=.cells #[.int .i64 a0_0,.slice A0_1 l0_1.length c0_1] 28 (0,0)) Bx.1 hb);have mBl_:=qAm (blk_below (g:=gl) (o:=.cells #[.int .i64 a1] 2 (0,0)) Bl.1 hb);have mHB_:=qAm (below_step HB.1 hb);clear Bx Bl HB;have Bx:=mBx_;have Bl:=mBl_;have HB:=mHB_;clear mBx_ mBl_ mHB_;clear hb;have cw2x_0:w2.cell? ⟨gx,0,none⟩=some (.int .i64 a0_0):=(blk_cell Bx.1 0).trans rfl;have fw2x_0:=blk_frozen Bx.1 0;have cw2x_1:w2.cell? ⟨gx,1,none⟩=some (.slice A0_1 l0_1.length c0_1):=(blk_cell Bx.1 1).trans rfl;have fw2x_1:=blk_frozen Bx.1 1;have cw2l_0:w2.cell? ⟨gl,0,none⟩=some (.int .i64 a1):=(blk_cell Bl.1 0).trans rfl;have fw2l_0:=blk_frozen Bl.1 0))
    first|go_ret2|go_ret
    exact⟨.slice none 0 0,rfl,Kd.R_nil _ _ _ _ _,HB.1⟩
  |true=>
    simp only [if_true] at H;obtain⟨⟨rs,b⟩,A2,H⟩:=qOb H;replace A2:=qAm A2;cases b with
    |false=>
      simp only [Bool.false_eq_true,if_false,Option.some.injEq,Prod.mk.injEq] at H;obtain⟨rfl,rfl⟩:=H;go_enter Try.func12,Try.ntmps12;go_wp2_with (first|((with_reducible refine gate_dst (N:=2) rfl ?_);refine box_event ?hg (N:=2) ?hd (cs:=#[.int .i64 a0_0,.slice A0_1 l0_1.length c0_1]) (t:=28) ?hr ?_;(case hd=>rfl);(case hg=>rfl);(case hr=>first|(go_simp;done)|(go_simp;rfl));intro gx hg wx hbox hb;have Gx:=qAm (by rw [hg];exact below_size HB.1:w.heap.size≤gx);have hgs_:=hg;have mHB_:=qAm (below_step HB.1 hb);clear HB;have HB:=mHB_;clear mHB_;have Bx:=qAm hbox;clear hbox;have cwxx_0:wx.cell? ⟨gx,0,none⟩=some (.int .i64 a0_0):=(blk_cell Bx.1 0).trans rfl;have fwxx_0:=blk_frozen Bx.1 0;have cwxx_1:wx.cell? ⟨gx,1,none⟩=some (.slice A0_1 l0_1.length c0_1):=(blk_cell Bx.1 1).trans rfl;have fwxx_1:=blk_frozen Bx.1 1;clear hb hg hgs_)|((with_reducible refine gate_dst (N:=3) rfl ?_);refine box_event ?hg (N:=3) ?hd (cs:=#[.int .i64 a1]) (t:=2) ?hr ?_;(case hd=>rfl);(case hg=>rfl);(case hr=>first|(go_simp;done)|(go_simp;rfl));intro gl hg wl hbox hb;have Gl:=qAm (by rw [hg];exact below_size HB.1:w.heap.size≤gl);have Nx_l:=qAm (by rw [hg];exact Nat.ne_of_lt (blk_lt (g:=gx) (o:=.cells #[.int .i64 a0_0,.slice A0_1 l0_1.length c0_1] 28 (0,0)) Bx.1):gx≠gl);have hgs_:=hg;have mBx_:=qAm (blk_below (g:=gx) (o:=.cells #[.int .i64 a0_0,.slice A0_1 l0_1.length c0_1] 28 (0,0)) Bx.1 hb);have mHB_:=qAm (below_step HB.1 hb);clear Bx HB;have Bx:=mBx_;have HB:=mHB_;clear mBx_ mHB_;have Bl:=qAm hbox;clear hbox;have cwlx_0:wl.cell? ⟨gx,0,none⟩=some (.int .i64 a0_0):=(blk_cell Bx.1 0).trans rfl;have fwlx_0:=blk_frozen Bx.1 0;have cwlx_1:wl.cell? ⟨gx,1,none⟩=some (.slice A0_1 l0_1.length c0_1):=(blk_cell Bx.1 1).trans rfl;have fwlx_1:=blk_frozen Bx.1 1;have cwll_0:wl.cell? ⟨gl,0,none⟩=some (.int .i64 a1):=(blk_cell Bl.1 0).trans rfl;have fwll_0:=blk_frozen Bl.1 0;have nx_l:=Nx_l.1;have ox_l:=Nx_l.1.symm;clear hb hg hgs_)|(go_at_call 59;refine(impl_IsCyclo.calls k a0_0 _ _ l0_1 _ _ (Kd.C_below HR0.1 HB.1) HC0.1 A1.1).mono ?_;rintro e w2 ⟨rfl,hb⟩;have mBx_:=qAm (blk_below (g:=gx) (o:=.cells #[.int .i64 a0_0,.slice A0_1 l0_1.length c0_1] 28 (0,0)) Bx.1 hb);have mBl_:=qAm (blk_below (g:=gl) (o:=.cells #[.int .i64 a1] 2 (0,0)) Bl.1 hb);have mHB_:=qAm (below_step HB.1 hb);clear Bx Bl HB;have Bx:=mBx_;have Bl:=mBl_;have HB:=mHB_;clear mBx_ mBl_ mHB_;clear hb;have cw2x_0:w2.cell? ⟨gx,0,none⟩=some (.int .i64 a0_0):=(blk_cell Bx.1 0).trans rfl;have fw2x_0:=blk_frozen Bx.1 0;have cw2x_1:w2.cell? ⟨gx,1,none⟩=some (.slice A0_1 l0_1.length c0_1):=(blk_cell Bx.1 1).trans rfl;have fw2x_1:=blk_frozen Bx.1 1;have cw2l_0:w2.cell? ⟨gl,0,none⟩=some (.int .i64 a1):=(blk_cell Bl.1 0).trans rfl;have fw2l_0:=blk_frozen Bl.1 0)|(go_at_call 60;refine(impl_rootsFor.calls k a0_0 a1 rs false w2 A2.1).mono ?_;rintro e w3 ⟨v3,rfl,ho3,hb⟩;have HO:=qAm (Kd.R_lower ho3 (below_size HB.1));have HN:=qAm ho3;have mBx_:=qAm (blk_below (g:=gx) (o:=.cells #[.int .i64 a0_0,.slice A0_1 l0_1.length c0_1] 28 (0,0)) Bx.1 hb);have mBl_:=qAm (blk_below (g:=gl) (o:=.cells #[.int .i64 a1] 2 (0,0)) Bl.1 hb);have mHB_:=qAm (below_step HB.1 hb);clear Bx Bl HB;have Bx:=mBx_;have Bl:=mBl_;have HB:=mHB_;clear mBx_ mBl_ mHB_;obtain⟨Ar,cr,er⟩:=Kd.R_slice HO.1;subst er;clear ho3 hb;have cw3x_0:w3.cell? ⟨gx,0,none⟩=some (.int .i64 a0_0):=(blk_cell Bx.1 0).trans rfl;have fw3x_0:=blk_frozen Bx.1 0;have cw3x_1:w3.cell? ⟨gx,1,none⟩=some (.slice A0_1 l0_1.length c0_1):=(blk_cell Bx.1 1).trans rfl;have fw3x_1:=blk_frozen Bx.1 1;have cw3l_0:w3.cell? ⟨gl,0,none⟩=some (.int .i64 a1):=(blk_cell Bl.1 0).trans rfl;have fw3l_0:=blk_frozen Bl.1 0))
      first|go_ret2|go_ret
      exact⟨.slice none 0 0,rfl,Kd.R_nil _ _ _ _ _,HB.1⟩
    |true=>
      simp only [if_true] at H
      by_cases hd:0<rs.length∧rs.length≤1000000∧a1≠0∧l0_1.length≤1000000
      · rw [if_pos hd] at H
        obtain⟨s,hs,H⟩:=qOb H;simp only [Option.some.injEq,Prod.mk.injEq] at H;obtain⟨rfl,rfl⟩:=H;have HD1:=qAm hd.1;have HD2:=qAm hd.2.1;have HD3:=qAm hd.2.2.1;have HD4:=qAm hd.2.2.2;have HD5:=qAm hs;clear hd hs;have hmf:∀(fn:Fn) (first cap:Array Value) (w:World),(Instr.makeFunc fn first cap).run Try.prog w=.ok (.func fn first cap) w:=fun _ _ _ _=>rfl
        go_enter Try.func12,Try.ntmps12;go_wp2_with (first|((with_reducible refine gate_dst (N:=2) rfl ?_);refine box_event ?hg (N:=2) ?hd (cs:=#[.int .i64 a0_0,.slice A0_1 l0_1.length c0_1]) (t:=28) ?hr ?_;(case hd=>rfl);(case hg=>rfl);(case hr=>first|(go_simp;done)|(go_simp;rfl));intro gx hg wx hbox hb;have Gx:=qAm (by rw [hg];exact below_size HB.1:w.heap.size≤gx);have hgs_:=hg;have mHB_:=qAm (below_step HB.1 hb);clear HB;have HB:=mHB_;clear mHB_;have Bx:=qAm hbox;clear hbox;have cwxx_0:wx.cell? ⟨gx,0,none⟩=some (.int .i64 a0_0):=(blk_cell Bx.1 0).trans rfl;have fwxx_0:=blk_frozen Bx.1 0;have cwxx_1:wx.cell? ⟨gx,1,none⟩=some (.slice A0_1 l0_1.length c0_1):=(blk_cell Bx.1 1).trans rfl;have fwxx_1:=blk_frozen Bx.1 1;clear hb hg hgs_)|((with_reducible refine gate_dst (N:=3) rfl ?_);refine box_event ?hg (N:=3) ?hd (cs:=#[.int .i64 a1]) (t:=2) ?hr ?_;(case hd=>rfl);(case hg=>rfl);(case hr=>first|(go_simp;done)|(go_simp;rfl));intro gl hg wl hbox hb;have Gl:=qAm (by rw [hg];exact below_size HB.1:w.heap.size≤gl);have Nx_l:=qAm (by rw [hg];exact Nat.ne_of_lt (blk_lt (g:=gx) (o:=.cells #[.int .i64 a0_0,.slice A0_1 l0_1.length c0_1] 28 (0,0)) Bx.1):gx≠gl);have hgs_:=hg;have mBx_:=qAm (blk_below (g:=gx) (o:=.cells #[.int .i64 a0_0,.slice A0_1 l0_1.length c0_1] 28 (0,0)) Bx.1 hb);have mHB_:=qAm (below_step HB.1 hb);clear Bx HB;have Bx:=mBx_;have HB:=mHB_;clear mBx_ mHB_;have Bl:=qAm hbox;clear hbox;have cwlx_0:wl.cell? ⟨gx,0,none⟩=some (.int .i64 a0_0):=(blk_cell Bx.1 0).trans rfl;have fwlx_0:=blk_frozen Bx.1 0;have cwlx_1:wl.cell? ⟨gx,1,none⟩=some (.slice A0_1 l0_1.length c0_1):=(blk_cell Bx.1 1).trans rfl;have fwlx_1:=blk_frozen Bx.1 1;have cwll_0:wl.cell? ⟨gl,0,none⟩=some (.int .i64 a1):=(blk_cell Bl.1 0).trans rfl;have fwll_0:=blk_frozen Bl.1 0;have nx_l:=Nx_l.1;have ox_l:=Nx_l.1.symm;clear hb hg hgs_)|(go_at_call 59;refine(impl_IsCyclo.calls k a0_0 _ _ l0_1 _ _ (Kd.C_below HR0.1 HB.1) HC0.1 A1.1).mono ?_;rintro e w2 ⟨rfl,hb⟩;have mBx_:=qAm (blk_below (g:=gx) (o:=.cells #[.int .i64 a0_0,.slice A0_1 l0_1.length c0_1] 28 (0,0)) Bx.1 hb);have mBl_:=qAm (blk_below (g:=gl) (o:=.cells #[.int .i64 a1] 2 (0,0)) Bl.1 hb);have mHB_:=qAm (below_step HB.1 hb);clear Bx Bl HB;have Bx:=mBx_;have Bl:=mBl_;have HB:=mHB_;clear mBx_ mBl_ mHB_;clear hb;have cw2x_0:w2.cell? ⟨gx,0,none⟩=some (.int .i64 a0_0):=(blk_cell Bx.1 0).trans rfl;have fw2x_0:=blk_frozen Bx.1 0;have cw2x_1:w2.cell? ⟨gx,1,none⟩=some (.slice A0_1 l0_1.length c0_1):=(blk_cell Bx.1 1).trans rfl;have fw2x_1:=blk_frozen Bx.1 1;have cw2l_0:w2.cell? ⟨gl,0,none⟩=some (.int .i64 a1):=(blk_cell Bl.1 0).trans rfl;have fw2l_0:=blk_frozen Bl.1 0)|(go_at_call 60;refine(impl_rootsFor.calls k a0_0 a1 rs true w2 A2.1).mono ?_;rintro e w3 ⟨v3,rfl,ho3,hb⟩;have HO:=qAm (Kd.R_lower ho3 (below_size HB.1));obtain⟨gr,cr,er,hgr_,_⟩:=Kd.R_form ho3 HD1.1;subst er;have NX_:=qAm (Nat.ne_of_lt (Nat.lt_of_lt_of_le (blk_lt Bx.1) hgr_));have NL_:=qAm (Nat.ne_of_lt (Nat.lt_of_lt_of_le (blk_lt Bl.1) hgr_));have GR_:=qAm (Nat.le_trans (below_size HB.1) hgr_);have mBx_:=qAm (blk_below (g:=gx) (o:=.cells #[.int .i64 a0_0,.slice A0_1 l0_1.length c0_1] 28 (0,0)) Bx.1 hb);have mBl_:=qAm (blk_below (g:=gl) (o:=.cells #[.int .i64 a1] 2 (0,0)) Bl.1 hb);have mHB_:=qAm (below_step HB.1 hb);clear Bx Bl HB;have Bx:=mBx_;have Bl:=mBl_;have HB:=mHB_;clear mBx_ mBl_ mHB_;clear ho3 hb hgr_;have cw3x_0:w3.cell? ⟨gx,0,none⟩=some (.int .i64 a0_0):=(blk_cell Bx.1 0).trans rfl;have fw3x_0:=blk_frozen Bx.1 0;have cw3x_1:w3.cell? ⟨gx,1,none⟩=some (.slice A0_1 l0_1.length c0_1):=(blk_cell Bx.1 1).trans rfl;have fw3x_1:=blk_frozen Bx.1 1;have cw3l_0:w3.cell? ⟨gl,0,none⟩=some (.int .i64 a1):=(blk_cell Bl.1 0).trans rfl;have fw3l_0:=blk_frozen Bl.1 0)|(go_at_call 61;refine(hpw_delete (k:=k) HO.1 HD2.1 HD3.1 HD4.1 Bx.1 NX_.1 Bl.1 NL_.1 HR0.1 HC0.1 HB.1 GR_.1 HD5.1).mono ?_;rintro e w4 ⟨v4,rfl,ho4,hg4⟩;have HE:=qAm ho4;have HF:=qAm (Below.grown HB.1 hg4 (below_size HB.1) (fun k_ e_=>by cases e_;exact GR_.1));clear ho4 hg4))
        first|go_ret2|go_ret
        exact⟨v4,rfl,HE.1,HF.1⟩
      · rw [if_neg hd] at H
        cases H

/-! ### laws_eqInt64S: function 13 -/
def laws_eqInt64S.l0:Nat→List Int→List Int→Int→Option (Bool)
  |0,_,_,_=>none
  |k+1,x0,x1,x5=>if x5<(x0.length:Int) then (if 0≤x5 then (if x5<(x1.length:Int) then (if (rd x0 x5)=(rd x1 x5) then (laws_eqInt64S.l0 k x0 x1 (wrap64 (x5+1))) else (some false)) else (none)) else (none)) else (some true)
def laws_eqInt64S.f (k:Nat) (l0:List Int) (l1:List Int):Option (Bool):=if (l0.length:Int)=(l1.length:Int) then (laws_eqInt64S.l0 k l0 l1 0) else (some false)
theorem laws_eqInt64S.mono_l:∀k,(∀y0 y1 y2,LeO (laws_eqInt64S.l0 k y0 y1 y2) (laws_eqInt64S.l0 (k+1) y0 y1 y2))
  |0=>fun _ _ _ r h=>by simp [laws_eqInt64S.l0] at h
  |k+1=>by
    have ih0:=laws_eqInt64S.mono_l k
    · intro y0 y1 y2
      unfold laws_eqInt64S.l0;repeat' first
      |(with_reducible exact ih0 _ _ _)
      |(with_reducible exact LeO.refl _)
      |(with_reducible exact LeO.none _)
      |(with_reducible refine LeO.ite ?_ ?_)
      |(with_reducible refine LeO.bind ?_ (fun _=>?_))
      |exact ih0 _ _ _
      |exact LeO.none _
      |refine LeO.ite ?_ ?_
      |refine LeO.bind ?_ (fun _=>?_)
theorem laws_eqInt64S.mono:∀a0 a1 k,LeO (laws_eqInt64S.f k a0 a1) (laws_eqInt64S.f (k+1) a0 a1):=by
  intro a0 a1 k;have ih0:=laws_eqInt64S.mono_l k;unfold laws_eqInt64S.f;repeat' first
      |(with_reducible exact ih0 _ _ _)
      |(with_reducible exact LeO.refl _)
      |(with_reducible exact LeO.none _)
      |(with_reducible refine LeO.ite ?_ ?_)
      |(with_reducible refine LeO.bind ?_ (fun _=>?_))
      |exact ih0 _ _ _
      |exact LeO.none _
      |refine LeO.ite ?_ ?_
      |refine LeO.bind ?_ (fun _=>?_)
set_option maxHeartbeats 8000000 in
set_option maxRecDepth 100000 in
theorem laws_eqInt64S.calls (k:Nat) (A0:Option Addr) (c0:Nat) (l0:List Int) (A1:Option Addr) (c1:Nat) (l1:List Int) (r:Bool) (w:World) (hr0:Kd.C (Kd.int .i64) w A0 l0.length l0) (hc0:l0.length≤c0) (hr1:Kd.C (Kd.int .i64) w A1 l1.length l1) (hc1:l1.length≤c1) (h:laws_eqInt64S.f k l0 l1=some r):
    Calls Try.prog 13 #[.slice A0 l0.length c0,.slice A1 l1.length c1] w fun e w'=>e=.returned (.bool r)∧Drawn0 w w':=by
  have HR0:=qAm hr0;have HC0:=qAm hc0;clear hr0 hc0;have HR1:=qAm hr1;have HC1:=qAm hc1;clear hr1 hc1;have H:(if (l0.length:Int)=(l1.length:Int) then (laws_eqInt64S.l0 k l0 l1 0) else (some false))=some r:=h;clear h
  by_cases c3:(l0.length:Int)=(l1.length:Int)
  · rw [if_pos c3] at H
    have c3b0:((l0.length:Int)==(l1.length:Int))=true:=beq_iff_eq.mpr c3;have c3b1:((l0.length:Int) !=(l1.length:Int))=false:=bne_eq_false_iff_eq.mpr c3;have c3b2:(l0.length==l1.length)=true:=by first|simpa using c3|(simp at c3 ⊢;omega)
    clear c3;have H':=qAm H;clear H;go_enter Try.func13,Try.ntmps13;go_wp2;repeat(go_quiet (fail);try go_wp2)
    try simp only [Act.put,qSa,qSc,qSb]
    go_loopg [5] k (fun kq v5 w'=>∃(x5_1:Int),v5=.int .i64 x5_1∧Aside0 (laws_eqInt64S.l0 kq l0 l1 x5_1=some r)∧Aside0 (kq≤k)∧Drawn0 w w')
    case atStart=>exact⟨(0),qB41,H',⟨Nat.le_refl _⟩,by repeat(first|exact Drawn0.refl _|apply Drawn0.step)⟩
    case round=>
      clear H';try clear c1
      try clear p2
      try clear c3
      try clear c3b0
      try clear c3b1
      try clear c3b2
      obtain⟨x5_1,rfl,HA,HK1,⟨m1,rfl⟩⟩:=hrel;cases gk with
      |zero=>exact absurd HA.1 (by simp [laws_eqInt64S.l0])
      |succ k1=>
        have H:=HA.1;clear HA;simp only [laws_eqInt64S.l0] at H
        by_cases c4:x5_1<(l0.length:Int)
        · rw [if_pos c4] at H
          have c4b0:decide (x5_1<(l0.length:Int))=true:=decide_eq_true c4;clear c4
          by_cases c5:0≤x5_1
          · rw [if_pos c5] at H
            have c5b0:decide (0≤x5_1)=true:=decide_eq_true c5;clear c5
            by_cases c6:x5_1<(l1.length:Int)
            · rw [if_pos c6] at H
              have c6b0:decide (x5_1<(l1.length:Int))=true:=decide_eq_true c6;clear c6
              by_cases c7:(rd l0 x5_1)=(rd l1 x5_1)
              · rw [if_pos c7] at H
                have c7b0:((rd l0 x5_1)==(rd l1 x5_1))=true:=beq_iff_eq.mpr c7;have c7b1:((rd l0 x5_1) !=(rd l1 x5_1))=false:=bne_eq_false_iff_eq.mpr c7;clear c7;have H':=qAm H;clear H;have p240:0≤(x5_1:Int):=of_decide_eq_true qB40;have q240:x5_1<(l0.length:Int):=of_decide_eq_true qB40;obtain⟨ad240,e240,hx240_0⟩:=Kd.at_int HR0.1 x5_1 p240 q240;cases e240
                replace p240:=eq_true p240;replace q240:=eq_true q240;have p241:0≤(x5_1:Int):=of_decide_eq_true qB40;have q241:x5_1<(l1.length:Int):=of_decide_eq_true qB40;obtain⟨ad241,e241,hx241_0⟩:=Kd.at_int HR1.1 x5_1 p241 q241;cases e241
                replace p241:=eq_true p241;replace q241:=eq_true q241;go_wp2;repeat(go_quiet (fail);try go_wp2)
                (first|go_roundg k1|((try simp only [add_plain] at *);go_roundg k1))
                case measure=>have:=HK1.1;omega
                case rel=>exact⟨(wrap64 (x5_1+1)),qB41,H',⟨by have:=HK1.1;omega⟩,by repeat(first|exact Drawn0.refl _|apply Drawn0.step)⟩
              · rw [if_neg c7] at H
                have c7b0:((rd l0 x5_1)==(rd l1 x5_1))=false:=beq_eq_false_iff_ne.mpr c7;have c7b1:((rd l0 x5_1) !=(rd l1 x5_1))=true:=bne_iff_ne.mpr c7;obtain rfl:=Option.some.inj H;have p240:0≤(x5_1:Int):=of_decide_eq_true qB40;have q240:x5_1<(l0.length:Int):=of_decide_eq_true qB40;obtain⟨ad240,e240,hx240_0⟩:=Kd.at_int HR0.1 x5_1 p240 q240;cases e240
                replace p240:=eq_true p240;replace q240:=eq_true q240;have p241:0≤(x5_1:Int):=of_decide_eq_true qB40;have q241:x5_1<(l1.length:Int):=of_decide_eq_true qB40;obtain⟨ad241,e241,hx241_0⟩:=Kd.at_int HR1.1 x5_1 p241 q241;cases e241
                replace p241:=eq_true p241;replace q241:=eq_true q241;go_wp2;repeat(go_quiet (fail);try go_wp2)
                go_ret;exact⟨by first|rfl|(simp;done)|(simp [*];done),by repeat(first|exact Drawn0.refl _|apply Drawn0.step)⟩
            · rw [if_neg c6] at H
              exact absurd H (by simp)
          · rw [if_neg c5] at H
            exact absurd H (by simp)
        · rw [if_neg c4] at H
          have c4b0:decide (x5_1<(l0.length:Int))=false:=decide_eq_false c4;clear c4;obtain rfl:=Option.some.inj H;go_wp2;repeat(go_quiet (fail);try go_wp2)
          go_ret;exact⟨by first|rfl|(simp;done)|(simp [*];done),by repeat(first|exact Drawn0.refl _|apply Drawn0.step)⟩
  · rw [if_neg c3] at H
    have c3b0:((l0.length:Int)==(l1.length:Int))=false:=beq_eq_false_iff_ne.mpr c3;have c3b1:((l0.length:Int) !=(l1.length:Int))=true:=bne_iff_ne.mpr c3;have c3b2:(l0.length==l1.length)=false:=by first|simpa using c3|(simp at c3 ⊢;omega)
    obtain rfl:=Option.some.inj H;go_enter Try.func13,Try.ntmps13;go_wp2;repeat(go_quiet (fail);try go_wp2)
    go_ret;exact⟨by first|rfl|(simp;done)|(simp [*];done),by repeat(first|exact Drawn0.refl _|apply Drawn0.step)⟩

/-! ### laws_eqCyclo: function 14 -/
def laws_eqCyclo.f (k:Nat) (a0_0:Int) (l0_1:List Int) (a1_0:Int) (l1_1:List Int):Option (Bool):=if a0_0=a1_0 then ((laws_eqInt64S.f k l0_1 l1_1).bind fun t244=>(if t244=true then (some true) else (some false))) else (some false)
theorem laws_eqCyclo.mono:∀a0 a1 a2 a3 k,LeO (laws_eqCyclo.f k a0 a1 a2 a3) (laws_eqCyclo.f (k+1) a0 a1 a2 a3):=by
  intro a0 a1 a2 a3 k;unfold laws_eqCyclo.f;repeat' first
      |(with_reducible exact laws_eqInt64S.mono _ _ _)
      |(with_reducible exact LeO.refl _)
      |(with_reducible exact LeO.none _)
      |(with_reducible refine LeO.ite ?_ ?_)
      |(with_reducible refine LeO.bind ?_ (fun _=>?_))
      |exact laws_eqInt64S.mono _ _ _
      |exact LeO.none _
      |refine LeO.ite ?_ ?_
      |refine LeO.bind ?_ (fun _=>?_)
set_option maxHeartbeats 8000000 in
set_option maxRecDepth 100000 in
theorem laws_eqCyclo.calls (k:Nat) (a0_0:Int) (A0_1:Option Addr) (c0_1:Nat) (l0_1:List Int) (a1_0:Int) (A1_1:Option Addr) (c1_1:Nat) (l1_1:List Int) (r:Bool) (w:World) (hr0_1:Kd.C (Kd.int .i64) w A0_1 l0_1.length l0_1) (hc0_1:l0_1.length≤c0_1) (hr1_1:Kd.C (Kd.int .i64) w A1_1 l1_1.length l1_1) (hc1_1:l1_1.length≤c1_1) (h:laws_eqCyclo.f k a0_0 l0_1 a1_0 l1_1=some r):
    Calls Try.prog 14 #[.agg #[.int .i64 a0_0,.slice A0_1 l0_1.length c0_1],.agg #[.int .i64 a1_0,.slice A1_1 l1_1.length c1_1]] w fun e w'=>e=.returned (.bool r)∧Below w.heap.size w w':=by
  have hu28:=Try.underlying28;have HR0_1:=qAm hr0_1;have HC0_1:=qAm hc0_1;clear hr0_1 hc0_1;have HR1_1:=qAm hr1_1;have HC1_1:=qAm hc1_1;clear hr1_1 hc1_1;have HB:=qAm (Below.refl w.heap.size w);have H:(if a0_0=a1_0 then ((laws_eqInt64S.f k l0_1 l1_1).bind fun t244=>(if t244=true then (some true) else (some false))) else (some false))=some r:=h;clear h
  by_cases c3:a0_0=a1_0
  · rw [if_pos c3] at H
    have c3b0:(a0_0==a1_0)=true:=beq_iff_eq.mpr c3;have c3b1:(a0_0 !=a1_0)=false:=bne_eq_false_iff_eq.mpr c3;clear c3;replace H:=qOb H;obtain⟨t244,A40,H⟩:=H;replace H:(if t244=true then (some true) else (some false))=some r:=H;have A4:=qAm A40;clear A40
    by_cases c5:t244=true
    · subst c5
      have H1:(some true)=some r:=by rw [if_pos rfl] at H;exact H
      clear H;have H:=H1;clear H1;obtain rfl:=Option.some.inj H;go_enter Try.func14,Try.ntmps14;go_wp2_with (first|((with_reducible refine gate_dst (N:=2) rfl ?_);refine box_event ?hg (N:=2) ?hd (cs:=#[.int .i64 a0_0,.slice A0_1 l0_1.length c0_1]) (t:=28) ?hr ?_;(case hd=>rfl);(case hg=>rfl);(case hr=>first|(go_simp;done)|(go_simp;rfl));intro gb242 hg w6 hbox hb;have n0_:=qAm (below_step qB15 hb);have n1_:=qAm (hbox);have n2_:=qAm ((by rw [hg];exact(below_size qB15):w.heap.size≤gb242));have n3_:=qAm ((by rw [hg];exact(below_size qB15):w.heap.size≤gb242));clear HB;have HB:=n0_;have BK242:=n1_;have GW242:=n2_;have GE242:=n3_;clear n0_ n1_ n2_ n3_;clear hb hbox hg)|((with_reducible refine gate_dst (N:=3) rfl ?_);refine box_event ?hg (N:=3) ?hd (cs:=#[.int .i64 a1_0,.slice A1_1 l1_1.length c1_1]) (t:=28) ?hr ?_;(case hd=>rfl);(case hg=>rfl);(case hr=>first|(go_simp;done)|(go_simp;rfl));intro gb243 hg w7 hbox hb;have n0_:=qAm (blk_below (g:=gb242) (o:=.cells #[.int .i64 a0_0,.slice A0_1 l0_1.length c0_1] 28 (0,0)) qB22 hb);have n1_:=qAm (below_step qB11 hb);have n2_:=qAm (hbox);have n3_:=qAm ((by rw [hg];exact(below_size qB11):w.heap.size≤gb243));have n4_:=qAm ((by rw [hg];exact(below_size qB11):w.heap.size≤gb243));have n5_:=qAm ((by rw [hg];exact Nat.ne_of_lt (blk_lt (g:=gb242) (o:=.cells #[.int .i64 a0_0,.slice A0_1 l0_1.length c0_1] 28 (0,0)) qB22):gb242≠gb243));have n6_:=qAm ((by rw [hg];exact Nat.ne_of_gt (blk_lt (g:=gb242) (o:=.cells #[.int .i64 a0_0,.slice A0_1 l0_1.length c0_1] 28 (0,0)) qB22):gb243≠gb242));clear BK242;clear HB;have BK242:=n0_;have HB:=n1_;have BK243:=n2_;have GW243:=n3_;have GE243:=n4_;have NB242_243:=n5_;have NB243_242:=n6_;clear n0_ n1_ n2_ n3_ n4_ n5_ n6_;clear hb hbox hg;have hnb8:=NB242_243.1;have hnc8:=NB243_242.1;have hcz9_0:w7.cell? ⟨gb242,0,none⟩=some (.int .i64 a0_0):=(blk_cell BK242.1 0).trans rfl;have hcz9_1:w7.cell? ⟨gb242,1,none⟩=some (.slice A0_1 l0_1.length c0_1):=(blk_cell BK242.1 1).trans rfl;have hfz9_0:=blk_frozen BK242.1 0;have hfz9_1:=blk_frozen BK242.1 1;have hcz10_0:w7.cell? ⟨gb243,0,none⟩=some (.int .i64 a1_0):=(blk_cell BK243.1 0).trans rfl;have hcz10_1:w7.cell? ⟨gb243,1,none⟩=some (.slice A1_1 l1_1.length c1_1):=(blk_cell BK243.1 1).trans rfl;have hfz10_0:=blk_frozen BK243.1 0;have hfz10_1:=blk_frozen BK243.1 1)|((with_reducible refine gate_callee (f:=13) rfl ?_);refine goesL_ (some 14) rfl rfl Try.func13 (by kernel_rfl) rfl #[.slice A0_1 l0_1.length c0_1,.slice A1_1 l1_1.length c1_1] rfl qB14 ?_;(with_reducible refine(laws_eqInt64S.calls k _ _ l0_1 _ _ l1_1 true _ ?side1 ?side2 ?side3 ?side4 A4.1).mono ?_);(case side1=>repeat(first|exact(Kd.C_below HR0_1.1 HB.1)|(with_reducible refine Kd.C_alloc ?_ _)|(with_reducible refine Kd.C_drewN ?_ _)|(with_reducible refine Kd.C_drew ?_)));(case side2=>exact HC0_1.1);(case side3=>repeat(first|exact(Kd.C_below HR1_1.1 HB.1)|(with_reducible refine Kd.C_alloc ?_ _)|(with_reducible refine Kd.C_drewN ?_ _)|(with_reducible refine Kd.C_drew ?_)));(case side4=>exact HC1_1.1);rintro e w' ⟨rfl,⟨nd,rfl⟩⟩;refine⟨_,rfl,?_⟩));go_ret;exact⟨by first|rfl|(simp [errW_none,errW_some] <;> rfl)|(simp [*,errW_none,errW_some] <;> rfl),by repeat(first|(with_reducible first|exact HB.1|apply below_alloc|apply pw_below_drewN|apply below_drew1|refine below_set ?_ GE242.1|refine below_set ?_ GE243.1)|exact HB.1)⟩
    · replace c5:=Bool.eq_false_iff.mpr c5
      subst c5;have H1:(some false)=some r:=by rw [if_neg (show ¬(false=true) by decide)] at H;exact H
      clear H;have H:=H1;clear H1;obtain rfl:=Option.some.inj H;go_enter Try.func14,Try.ntmps14;go_wp2_with (first|((with_reducible refine gate_dst (N:=2) rfl ?_);refine box_event ?hg (N:=2) ?hd (cs:=#[.int .i64 a0_0,.slice A0_1 l0_1.length c0_1]) (t:=28) ?hr ?_;(case hd=>rfl);(case hg=>rfl);(case hr=>first|(go_simp;done)|(go_simp;rfl));intro gb242 hg w11 hbox hb;have n0_:=qAm (below_step qB15 hb);have n1_:=qAm (hbox);have n2_:=qAm ((by rw [hg];exact(below_size qB15):w.heap.size≤gb242));have n3_:=qAm ((by rw [hg];exact(below_size qB15):w.heap.size≤gb242));clear HB;have HB:=n0_;have BK242:=n1_;have GW242:=n2_;have GE242:=n3_;clear n0_ n1_ n2_ n3_;clear hb hbox hg)|((with_reducible refine gate_dst (N:=3) rfl ?_);refine box_event ?hg (N:=3) ?hd (cs:=#[.int .i64 a1_0,.slice A1_1 l1_1.length c1_1]) (t:=28) ?hr ?_;(case hd=>rfl);(case hg=>rfl);(case hr=>first|(go_simp;done)|(go_simp;rfl));intro gb243 hg w12 hbox hb;have n0_:=qAm (blk_below (g:=gb242) (o:=.cells #[.int .i64 a0_0,.slice A0_1 l0_1.length c0_1] 28 (0,0)) qB22 hb);have n1_:=qAm (below_step qB11 hb);have n2_:=qAm (hbox);have n3_:=qAm ((by rw [hg];exact(below_size qB11):w.heap.size≤gb243));have n4_:=qAm ((by rw [hg];exact(below_size qB11):w.heap.size≤gb243));have n5_:=qAm ((by rw [hg];exact Nat.ne_of_lt (blk_lt (g:=gb242) (o:=.cells #[.int .i64 a0_0,.slice A0_1 l0_1.length c0_1] 28 (0,0)) qB22):gb242≠gb243));have n6_:=qAm ((by rw [hg];exact Nat.ne_of_gt (blk_lt (g:=gb242) (o:=.cells #[.int .i64 a0_0,.slice A0_1 l0_1.length c0_1] 28 (0,0)) qB22):gb243≠gb242));clear BK242;clear HB;have BK242:=n0_;have HB:=n1_;have BK243:=n2_;have GW243:=n3_;have GE243:=n4_;have NB242_243:=n5_;have NB243_242:=n6_;clear n0_ n1_ n2_ n3_ n4_ n5_ n6_;clear hb hbox hg;have hnb13:=NB242_243.1;have hnc13:=NB243_242.1;have hcz14_0:w12.cell? ⟨gb242,0,none⟩=some (.int .i64 a0_0):=(blk_cell BK242.1 0).trans rfl;have hcz14_1:w12.cell? ⟨gb242,1,none⟩=some (.slice A0_1 l0_1.length c0_1):=(blk_cell BK242.1 1).trans rfl;have hfz14_0:=blk_frozen BK242.1 0;have hfz14_1:=blk_frozen BK242.1 1;have hcz15_0:w12.cell? ⟨gb243,0,none⟩=some (.int .i64 a1_0):=(blk_cell BK243.1 0).trans rfl;have hcz15_1:w12.cell? ⟨gb243,1,none⟩=some (.slice A1_1 l1_1.length c1_1):=(blk_cell BK243.1 1).trans rfl;have hfz15_0:=blk_frozen BK243.1 0;have hfz15_1:=blk_frozen BK243.1 1)|((with_reducible refine gate_callee (f:=13) rfl ?_);refine goesL_ (some 14) rfl rfl Try.func13 (by kernel_rfl) rfl #[.slice A0_1 l0_1.length c0_1,.slice A1_1 l1_1.length c1_1] rfl qB14 ?_;(with_reducible refine(laws_eqInt64S.calls k _ _ l0_1 _ _ l1_1 false _ ?side1 ?side2 ?side3 ?side4 A4.1).mono ?_);(case side1=>repeat(first|exact(Kd.C_below HR0_1.1 HB.1)|(with_reducible refine Kd.C_alloc ?_ _)|(with_reducible refine Kd.C_drewN ?_ _)|(with_reducible refine Kd.C_drew ?_)));(case side2=>exact HC0_1.1);(case side3=>repeat(first|exact(Kd.C_below HR1_1.1 HB.1)|(with_reducible refine Kd.C_alloc ?_ _)|(with_reducible refine Kd.C_drewN ?_ _)|(with_reducible refine Kd.C_drew ?_)));(case side4=>exact HC1_1.1);rintro e w' ⟨rfl,⟨nd,rfl⟩⟩;refine⟨_,rfl,?_⟩));go_ret;exact⟨by first|rfl|(simp [errW_none,errW_some] <;> rfl)|(simp [*,errW_none,errW_some] <;> rfl),by repeat(first|(with_reducible first|exact HB.1|apply below_alloc|apply pw_below_drewN|apply below_drew1|refine below_set ?_ GE242.1|refine below_set ?_ GE243.1)|exact HB.1)⟩
  · rw [if_neg c3] at H
    have c3b0:(a0_0==a1_0)=false:=beq_eq_false_iff_ne.mpr c3;have c3b1:(a0_0 !=a1_0)=true:=bne_iff_ne.mpr c3;obtain rfl:=Option.some.inj H;go_enter Try.func14,Try.ntmps14;go_wp2_with (first|((with_reducible refine gate_dst (N:=2) rfl ?_);refine box_event ?hg (N:=2) ?hd (cs:=#[.int .i64 a0_0,.slice A0_1 l0_1.length c0_1]) (t:=28) ?hr ?_;(case hd=>rfl);(case hg=>rfl);(case hr=>first|(go_simp;done)|(go_simp;rfl));intro gb242 hg w16 hbox hb;have n0_:=qAm (below_step qB15 hb);have n1_:=qAm (hbox);have n2_:=qAm ((by rw [hg];exact(below_size qB15):w.heap.size≤gb242));have n3_:=qAm ((by rw [hg];exact(below_size qB15):w.heap.size≤gb242));clear HB;have HB:=n0_;have BK242:=n1_;have GW242:=n2_;have GE242:=n3_;clear n0_ n1_ n2_ n3_;clear hb hbox hg)|((with_reducible refine gate_dst (N:=3) rfl ?_);refine box_event ?hg (N:=3) ?hd (cs:=#[.int .i64 a1_0,.slice A1_1 l1_1.length c1_1]) (t:=28) ?hr ?_;(case hd=>rfl);(case hg=>rfl);(case hr=>first|(go_simp;done)|(go_simp;rfl));intro gb243 hg w17 hbox hb;have n0_:=qAm (blk_below (g:=gb242) (o:=.cells #[.int .i64 a0_0,.slice A0_1 l0_1.length c0_1] 28 (0,0)) qB22 hb);have n1_:=qAm (below_step qB11 hb);have n2_:=qAm (hbox);have n3_:=qAm ((by rw [hg];exact(below_size qB11):w.heap.size≤gb243));have n4_:=qAm ((by rw [hg];exact(below_size qB11):w.heap.size≤gb243));have n5_:=qAm ((by rw [hg];exact Nat.ne_of_lt (blk_lt (g:=gb242) (o:=.cells #[.int .i64 a0_0,.slice A0_1 l0_1.length c0_1] 28 (0,0)) qB22):gb242≠gb243));have n6_:=qAm ((by rw [hg];exact Nat.ne_of_gt (blk_lt (g:=gb242) (o:=.cells #[.int .i64 a0_0,.slice A0_1 l0_1.length c0_1] 28 (0,0)) qB22):gb243≠gb242));clear BK242;clear HB;have BK242:=n0_;have HB:=n1_;have BK243:=n2_;have GW243:=n3_;have GE243:=n4_;have NB242_243:=n5_;have NB243_242:=n6_;clear n0_ n1_ n2_ n3_ n4_ n5_ n6_;clear hb hbox hg;have hnb18:=NB242_243.1;have hnc18:=NB243_242.1;have hcz19_0:w17.cell? ⟨gb242,0,none⟩=some (.int .i64 a0_0):=(blk_cell BK242.1 0).trans rfl;have hcz19_1:w17.cell? ⟨gb242,1,none⟩=some (.slice A0_1 l0_1.length c0_1):=(blk_cell BK242.1 1).trans rfl;have hfz19_0:=blk_frozen BK242.1 0;have hfz19_1:=blk_frozen BK242.1 1;have hcz20_0:w17.cell? ⟨gb243,0,none⟩=some (.int .i64 a1_0):=(blk_cell BK243.1 0).trans rfl;have hcz20_1:w17.cell? ⟨gb243,1,none⟩=some (.slice A1_1 l1_1.length c1_1):=(blk_cell BK243.1 1).trans rfl;have hfz20_0:=blk_frozen BK243.1 0;have hfz20_1:=blk_frozen BK243.1 1));go_ret;exact⟨by first|rfl|(simp [errW_none,errW_some] <;> rfl)|(simp [*,errW_none,errW_some] <;> rfl),by repeat(first|(with_reducible first|exact HB.1|apply below_alloc|apply pw_below_drewN|apply below_drew1|refine below_set ?_ GE242.1|refine below_set ?_ GE243.1)|exact HB.1)⟩

/-! ### laws_markInt64S: function 16 -/
def laws_markInt64S.l0:Nat→List Int→Int→Int→Option (Int×List Int)
  |0,_,_,_=>none
  |k+1,x0,x1,x5=>if x5<(x0.length:Int) then (if 0≤x5 then (laws_markInt64S.l0 k (x0.set (x5:Int).toNat x1) (wrap64 (x1+1)) (wrap64 (x5+1))) else (none)) else (some (x1,x0))
def laws_markInt64S.f (k:Nat) (l0:List Int) (a1:Int):Option (Int×List Int):=laws_markInt64S.l0 k l0 a1 0
theorem laws_markInt64S.mono_l:∀k,(∀y0 y1 y2,LeO (laws_markInt64S.l0 k y0 y1 y2) (laws_markInt64S.l0 (k+1) y0 y1 y2))
  |0=>fun _ _ _ r h=>by simp [laws_markInt64S.l0] at h
  |k+1=>by
    have ih0:=laws_markInt64S.mono_l k
    · intro y0 y1 y2
      unfold laws_markInt64S.l0;repeat' first
      |(with_reducible exact ih0 _ _ _)
      |(with_reducible exact LeO.refl _)
      |(with_reducible exact LeO.none _)
      |(with_reducible refine LeO.ite ?_ ?_)
      |(with_reducible refine LeO.bind ?_ (fun _=>?_))
      |exact ih0 _ _ _
      |exact LeO.none _
      |refine LeO.ite ?_ ?_
      |refine LeO.bind ?_ (fun _=>?_)
theorem laws_markInt64S.mono:∀a0 a1 k,LeO (laws_markInt64S.f k a0 a1) (laws_markInt64S.f (k+1) a0 a1):=by
  intro a0 a1 k;have ih0:=laws_markInt64S.mono_l k;unfold laws_markInt64S.f;repeat' first
      |(with_reducible exact ih0 _ _ _)
      |(with_reducible exact LeO.refl _)
      |(with_reducible exact LeO.none _)
      |(with_reducible refine LeO.ite ?_ ?_)
      |(with_reducible refine LeO.bind ?_ (fun _=>?_))
      |exact ih0 _ _ _
      |exact LeO.none _
      |refine LeO.ite ?_ ?_
      |refine LeO.bind ?_ (fun _=>?_)
set_option maxHeartbeats 8000000 in
set_option maxRecDepth 100000 in
theorem laws_markInt64S.calls (k:Nat) (P0_:Nat→Prop) (u9000_:Value) (l0:List Int) (a1:Int) (r1:Int) (r2:List Int) (w0 w:World) (hB:Below w0.heap.size w0 w) (ho0:Kd.R (Kd.int .i64) 2 w w0.heap.size P0_ u9000_ l0) (h:laws_markInt64S.f k l0 a1=some (r1,r2)):
    Calls Try.prog 16 #[u9000_,.int .i64 a1] w fun e w'=>e=.returned (.int .i64 r1)∧Kd.R (Kd.int .i64) 2 w' w0.heap.size (fun k_=>(P0_ k_∨w.heap.size≤k_)) u9000_ r2∧Below w0.heap.size w0 w'∧Kept w w' (fun k_=>P0_ k_):=by
  have HO0:=qAm (show Kd.R (Kd.int .i64) 2 w w0.heap.size (fun k_=>(P0_ k_∨w.heap.size≤k_)) u9000_ l0 from Kd.R_mono ho0 (fun k_ hk=>(.inl hk)));have HK:=qAm (Kept.refl w (fun k_=>P0_ k_));have HW0:=qAm hB.size;have HB:=qAm hB;clear hB;have H:(laws_markInt64S.l0 k l0 a1 0)=some (r1,r2):=h;clear h;have H':=qAm H;clear H;go_enter Try.func16,Try.ntmps16;go_wp2;try simp only [Act.put,qSa,qSc,qSb]
  go_loopg [1,5] k (fun kq v1 v5 w'=>∃(x0_1:List Int) (x1_1:Int) (x5_1:Int),v1=.int .i64 x1_1∧v5=.int .i64 x5_1∧Aside0 (laws_markInt64S.l0 kq x0_1 x1_1 x5_1=some (r1,r2))∧Aside0 (kq≤k)∧Aside0 (Kd.R (Kd.int .i64) 2 w' w0.heap.size (fun k_=>(P0_ k_∨w.heap.size≤k_)) u9000_ x0_1)∧Aside0 (Kept w w' (fun k_=>P0_ k_))∧Aside0 (Below w0.heap.size w0 w'))
  case atStart=>exact⟨(l0),(a1),(0),qB41,qB41,H',⟨Nat.le_refl _⟩,⟨by (with_reducible repeat(first|apply Kd.R_alloc|apply Kd.R_drewN|apply Kd.R_drew));exact HO0.1⟩,⟨by repeat(first|(with_reducible first|exact HK.1|apply Kept.alloc|apply Kept.drewN|apply Kept.drew)|exact HK.1)⟩,⟨by repeat(first|(with_reducible first|exact HB.1|apply below_alloc|apply pw_below_drewN|apply below_drew1)|exact HB.1)⟩⟩
  case round=>
    clear H';try clear c1
    try clear p2
    obtain⟨x0_1,x1_1,x5_1,rfl,rfl,HA,HK1,HO_0,HK,HB⟩:=hrel;cases gk with
    |zero=>exact absurd HA.1 (by simp [laws_markInt64S.l0])
    |succ k1=>
      have H:=HA.1;clear HA;simp only [laws_markInt64S.l0] at H
      by_cases c3:x5_1<(x0_1.length:Int)
      · rw [if_pos c3] at H
        have c3b0:decide (x5_1<(x0_1.length:Int))=true:=decide_eq_true c3;clear c3
        by_cases c4:0≤x5_1
        · rw [if_pos c4] at H
          have c4b0:decide (0≤x5_1)=true:=decide_eq_true c4;clear c4;obtain⟨y245,hy245⟩:∃y_:List Int,y_=(x0_1.set (x5_1:Int).toNat x1_1):=⟨_,rfl⟩
          replace H:(laws_markInt64S.l0 k1 y245 (wrap64 (x1_1+1)) (wrap64 (x5_1+1)))=some (r1,r2):=by first|(rw [hy245];with_reducible exact H)|(have H2_:=(Option.bind_some _ _).symm.trans H;rw [hy245];with_reducible exact H2_)|(have H2_:=(Option.bind_some _ _).symm.trans H;with_reducible exact H2_)|with_reducible exact H|(rw [hy245];exact H)|exact H
          have Ny245:=qAm hy245;clear hy245;have H':=qAm H;clear H;obtain⟨Ao6,co6,eo6⟩:=Kd.R_slice HO_0.1;subst eo6;have p5:0≤(x5_1:Int):=of_decide_eq_true qB40;have q5:(x5_1:Int)<((x0_1.length:Int):Int):=of_decide_eq_true qB40;obtain⟨go5,co5,eo5,gb5,gl5,cl5,HG5⟩:=Kd.R_form HO_0.1 (by omega)
          (first|cases eo5|(injection eo5 with ea_ en_ ec_;(first|subst ea_|(injection ea_ with ea_;subst ea_));subst ec_;clear en_))
          have GB5:=qAm gb5;have GG5:=qAm HG5;clear gb5 gl5 HG5;have HMgo5:=qAm (show(P0_ go5∨w.heap.size≤go5) from (HO_0.1.1 _ rfl));obtain⟨hx5_0,hf5_0⟩:=Kd.R_celln 0 HO_0.1 (x5_1:Int) p5 q5;replace p5:=eq_true p5;replace q5:=eq_true q5;have HP7:=Kd.R_putg HO_0.1 (x5_1:Int) x1_1;go_wp2_with (first|((with_reducible refine gate_store (t:=2) (p:=15) rfl ?_);refine store_event (t:=2) (p:=15) (v:=?vo_w8) (w1:=(wr.setCell ⟨go5,(x5_1:Int).toNat,none⟩ (.int .i64 x1_1))) ?hg ?ho ?hn ?hr ?_;(case ho=>rfl);(case hg=>rfl);(case hn=>rfl);(case hr=>first|(go_simp;done)|(go_simp;rfl));intro w8 hw;have hg:wr.grownBy w8 (some go5):=(by rw [hw];exact HP7.2);have hp_:Kd.R (Kd.int .i64) 2 w8 w0.heap.size (fun k_=>(P0_ k_∨w.heap.size≤k_)) (.slice (some ⟨go5,0,none⟩) x0_1.length co6) y245:=(by rw [hw,Ny245.1];exact HP7.1);clear HP7;have n0_:=qAm (hp_);have n1_:=qAm ((by rw [hw];exact below_set (HB.1) GB5.1:Below w0.heap.size w0 w8));have n2_:=qAm (Kept.of_grown (S:=(fun k_=>P0_ k_)) hg qB16 (fun k_ e_=>(HO_0.1.1 k_ e_)));clear HO_0;clear HB;clear HK;have HO_0:=n0_;have HB:=n1_;have HK:=n2_;clear n0_ n1_ n2_;clear hg hw hp_))
          (first|go_roundg k1|((try simp only [add_plain] at *);go_roundg k1))
          case measure=>have:=HK1.1;omega
          case rel=>exact⟨(y245),(wrap64 (x1_1+1)),(wrap64 (x5_1+1)),qB41,qB41,H',⟨by have:=HK1.1;omega⟩,⟨by (with_reducible repeat(first|apply Kd.R_alloc|apply Kd.R_drewN|apply Kd.R_drew));exact HO_0.1⟩,⟨by repeat(first|(with_reducible first|exact HK.1|apply Kept.alloc|apply Kept.drewN|apply Kept.drew)|exact HK.1)⟩,⟨by repeat(first|(with_reducible first|exact HB.1|apply below_alloc|apply pw_below_drewN|apply below_drew1)|exact HB.1)⟩⟩
        · rw [if_neg c4] at H
          exact absurd H (by simp)
      · rw [if_neg c3] at H
        have c3b0:decide (x5_1<(x0_1.length:Int))=false:=decide_eq_false c3;clear c3;simp only [Option.some.injEq,Prod.mk.injEq] at H;obtain⟨rfl,rfl⟩:=H;obtain⟨Ao9,co9,eo9⟩:=Kd.R_slice HO_0.1;subst eo9;go_wp2;go_ret;exact⟨by first|rfl|(simp [errW_none,errW_some] <;> rfl)|(simp [*,errW_none,errW_some] <;> rfl),by (with_reducible repeat(first|apply Kd.R_alloc|apply Kd.R_drewN|apply Kd.R_drew));exact HO_0.1,by repeat(first|(with_reducible first|exact HB.1|apply below_alloc|apply pw_below_drewN|apply below_drew1)|exact HB.1),by repeat(first|(with_reducible first|exact HK.1|apply Kept.alloc|apply Kept.drewN|apply Kept.drew)|exact HK.1)⟩

/-! ### laws_markCyclo: function 15 -/
def laws_markCyclo.f (k:Nat) (a0_0:Int) (l0_1:List Int) (a1:Int):Option (Int×List Int):=(laws_markInt64S.f k l0_1 a1).bind fun bt247=>(some (bt247.1,bt247.2))
theorem laws_markCyclo.mono:∀a0 a1 a2 k,LeO (laws_markCyclo.f k a0 a1 a2) (laws_markCyclo.f (k+1) a0 a1 a2):=by
  intro a0 a1 a2 k;unfold laws_markCyclo.f;repeat' first
      |(with_reducible exact laws_markInt64S.mono _ _ _)
      |(with_reducible exact LeO.refl _)
      |(with_reducible exact LeO.none _)
      |(with_reducible refine LeO.ite ?_ ?_)
      |(with_reducible refine LeO.bind ?_ (fun _=>?_))
      |exact laws_markInt64S.mono _ _ _
      |exact LeO.none _
      |refine LeO.ite ?_ ?_
      |refine LeO.bind ?_ (fun _=>?_)
set_option maxHeartbeats 8000000 in
set_option maxRecDepth 100000 in
theorem laws_markCyclo.calls (k:Nat) (a0_0:Int) (P0_1_:Nat→Prop) (u9000_:Value) (l0_1:List Int) (a1:Int) (r1:Int) (r2:List Int) (w0 w:World) (hB:Below w0.heap.size w0 w) (ho0_1:Kd.R (Kd.int .i64) 2 w w0.heap.size P0_1_ u9000_ l0_1) (h:laws_markCyclo.f k a0_0 l0_1 a1=some (r1,r2)):
    Calls Try.prog 15 #[.agg #[.int .i64 a0_0,u9000_],.int .i64 a1] w fun e w'=>e=.returned (.int .i64 r1)∧Kd.R (Kd.int .i64) 2 w' w0.heap.size (fun k_=>(P0_1_ k_∨w.heap.size≤k_)) u9000_ r2∧Below w0.heap.size w0 w'∧Kept w w' (fun k_=>P0_1_ k_):=by
  have hu28:=Try.underlying28;have HO0_1:=qAm (show Kd.R (Kd.int .i64) 2 w w0.heap.size (fun k_=>(P0_1_ k_∨w.heap.size≤k_)) u9000_ l0_1 from Kd.R_mono ho0_1 (fun k_ hk=>(.inl hk)));have HK:=qAm (Kept.refl w (fun k_=>P0_1_ k_));have HW0:=qAm hB.size;have HB:=qAm hB;clear hB;have H:((laws_markInt64S.f k l0_1 a1).bind fun bt247=>(some (bt247.1,bt247.2)))=some (r1,r2):=h;clear h;replace H:=qOb H;obtain⟨⟨t247,t248⟩,A30,H⟩:=H;replace H:(some (t247,t248))=some (r1,r2):=H;have A3:=qAm A30;clear A30;simp only [Option.some.injEq,Prod.mk.injEq] at H;obtain⟨rfl,rfl⟩:=H;obtain⟨Ao4,co4,eo4⟩:=Kd.R_slice HO0_1.1;subst eo4;go_enter Try.func15,Try.ntmps15;go_wp2_with (first|((with_reducible refine gate_dst (N:=2) rfl ?_);refine box_event ?hg (N:=2) ?hd (cs:=#[.int .i64 a0_0,.slice Ao4 l0_1.length co4]) (t:=28) ?hr ?_;(case hd=>rfl);(case hg=>rfl);(case hr=>first|(go_simp;done)|(go_simp;rfl));intro gb246 hg w5 hbox hb;have n0_:=qAm (Kd.R_below (by (with_reducible repeat(first|apply Kd.R_alloc|apply Kd.R_drewN|apply Kd.R_drew));exact HO0_1.1) hb);have n1_:=qAm (Kept.below (S:=(fun k_=>P0_1_ k_)) qB16 hb);have n2_:=qAm (below_step qB15 hb);have n3_:=qAm (hbox);have n4_:=qAm ((by rw [hg];exact(by first|exact HK.1.1|exact(show Kept w _ (fun k_=>P0_1_ k_) from by repeat(first|(with_reducible first|exact HK.1|apply Kept.alloc|apply Kept.drewN|apply Kept.drew)|exact HK.1)).1):w.heap.size≤gb246));have n5_:=qAm ((by rw [hg];exact(below_size qB15):w0.heap.size≤gb246));clear HO0_1;clear HK;clear HB;have HO0_1:=n0_;have HK:=n1_;have HB:=n2_;have BK246:=n3_;have GW246:=n4_;have GE246:=n5_;clear n0_ n1_ n2_ n3_ n4_ n5_;clear hb hbox hg;have hcz6_0:w5.cell? ⟨gb246,0,none⟩=some (.int .i64 a0_0):=(blk_cell BK246.1 0).trans rfl;have hcz6_1:w5.cell? ⟨gb246,1,none⟩=some (.slice Ao4 l0_1.length co4):=(blk_cell BK246.1 1).trans rfl;have hfz6_0:=blk_frozen BK246.1 0;have hfz6_1:=blk_frozen BK246.1 1)|((with_reducible refine gate_callee (f:=16) rfl ?_);refine goesL_ (some 8) rfl rfl Try.func16 (by kernel_rfl) rfl #[.slice Ao4 l0_1.length co4,.int .i64 a1] rfl qB14 ?_;(with_reducible refine(laws_markInt64S.calls k (fun k_=>some k_=(.slice Ao4 l0_1.length co4:Value).ownBlock) (.slice Ao4 l0_1.length co4) l0_1 a1 t247 t248 w0 _ ?side1 ?side2 A3.1).mono ?_);(case side1=>repeat(first|(with_reducible first|exact HB.1|apply below_alloc|apply pw_below_drewN|apply below_drew1|refine below_set ?_ GE246.1)|exact HB.1));(case side2=>exact Kd.R_tight rfl HO0_1.1);rintro e w7 ⟨rfl,hy0,hb,hkp⟩;refine⟨_,rfl,?_⟩;have n0_:=qAm (Kd.R_reok rfl hy0 (fun k_ e_=>HO0_1.1.1 k_ e_));have n1_:=qAm (blk_kept (by (with_reducible repeat(first|refine blk_drewN ?_ _|refine blk_drew ?_|refine blk_alloc ?_ _));exact BK246.1) hkp (fun hs_=>(fun e_=>(Kd.R_ne HO0_1.1 BK246.1 (by decide)) e_) hs_));have n2_:=qAm (Kept.then_ (S:=(fun k_=>P0_1_ k_)) (by repeat(first|(with_reducible first|exact HK.1|apply Kept.alloc|apply Kept.drewN|apply Kept.drew|refine Kept.setCell ?_ (.inr GW246.1) _)|exact HK.1)) hkp (fun k_ hs_=>(fun e_=>(HO0_1.1.1 k_ e_.symm)) hs_));have n3_:=qAm (hb);clear HO0_1;clear BK246;clear HK;clear HB;have HO0_1:=n0_;have BK246:=n1_;have HK:=n2_;have HB:=n3_;clear n0_ n1_ n2_ n3_;(try clear hb);(try clear hkp);(try clear hy0)));go_ret;exact⟨by first|rfl|(simp [errW_none,errW_some] <;> rfl)|(simp [*,errW_none,errW_some] <;> rfl),by (with_reducible repeat(first|apply Kd.R_alloc|apply Kd.R_drewN|apply Kd.R_drew));exact HO0_1.1,by repeat(first|(with_reducible first|exact HB.1|apply below_alloc|apply pw_below_drewN|apply below_drew1|refine below_set ?_ GE246.1)|exact HB.1),by repeat(first|(with_reducible first|exact HK.1|apply Kept.alloc|apply Kept.drewN|apply Kept.drew|refine Kept.setCell ?_ (.inr GW246.1) _)|exact HK.1)⟩

end Go.Proofs.Ytefhabkikaadiaa.PFnExactPlacesWith
