/- The functions that the law reaches, as plain functions, each with the proof that the program comes to it; no condition. Written by a program of this session (wip/mp.py) over the printing of the kit; what is marked HAND is told by hand. -/
import Derived.Test.YtefhabkikaadiaaPFnExactCycloAtResiduesx0
import Derived.Test.YtefhabkikaadiaaPFnExactCycloAtResiduesx1
import Derived.Test.YtefhabkikaadiaaPFnExactCycloAtResiduesx2
namespace Go.Proofs.Ytefhabkikaadiaa.PFnExactCycloAtResidues
open Go.RowKit Go.Proofs.YtefhabkikaadiaaW.PrintWords Go.Proofs.YtefhabkikaadiaaW.PrintLast Go.Proofs.YtefhabkikaadiaaW.PrintMore
attribute [local go_sem] max2_int min2_int max_two min_two max_three min_three max_four min_four   -- for this text's walks alone
set_option linter.unusedVariables false
set_option linter.unusedSimpArgs false

/-! ### spec_l07Roots: function 57 -/
def spec_l07Roots.l0:Nat→Int→List Int→List Int→Int→Option (List Int)
  |0,_,_,_,_=>none
  |k+1,x1,x5,x6,x7=>if x7<x1 then ((spec_l07Value.f k x6 x7 x1).bind fun t152=>(if t152=0 then (if x5.length<17592186044416 then (spec_l07Roots.l0 k x1 (x5 ++ [x7]) x6 (wrap64 (x7+1))) else (none)) else (spec_l07Roots.l0 k x1 x5 x6 (wrap64 (x7+1))))) else (some x5)
def spec_l07Roots.f (k:Nat) (a0:Int) (a1:Int):Option (List Int):=(spec_l01Cyclotomic.f k a0).bind fun t149=>(spec_l07Roots.l0 k a1 (([]:List Int)) t149 1)
theorem spec_l07Roots.mono_l:∀k,(∀y0 y1 y2 y3,LeO (spec_l07Roots.l0 k y0 y1 y2 y3) (spec_l07Roots.l0 (k+1) y0 y1 y2 y3))
  |0=>fun _ _ _ _ r h=>by simp [spec_l07Roots.l0] at h
  |k+1=>by
    have ih0:=spec_l07Roots.mono_l k
    · intro y0 y1 y2 y3
      unfold spec_l07Roots.l0;repeat' first
      |(with_reducible exact ih0 _ _ _ _)
      |(with_reducible exact spec_l01Cyclotomic.mono _ _)
      |(with_reducible exact spec_l07Value.mono _ _ _ _)
      |(with_reducible exact LeO.refl _)
      |(with_reducible exact LeO.none _)
      |(with_reducible refine LeO.ite ?_ ?_)
      |(with_reducible refine LeO.bind ?_ (fun _=>?_))
      |exact ih0 _ _ _ _
      |exact spec_l01Cyclotomic.mono _ _
      |exact spec_l07Value.mono _ _ _ _
      |exact LeO.none _
      |refine LeO.ite ?_ ?_
      |refine LeO.bind ?_ (fun _=>?_)
theorem spec_l07Roots.mono:∀a0 a1 k,LeO (spec_l07Roots.f k a0 a1) (spec_l07Roots.f (k+1) a0 a1):=by
  intro a0 a1 k;have ih0:=spec_l07Roots.mono_l k;unfold spec_l07Roots.f;repeat' first
      |(with_reducible exact ih0 _ _ _ _)
      |(with_reducible exact spec_l01Cyclotomic.mono _ _)
      |(with_reducible exact spec_l07Value.mono _ _ _ _)
      |(with_reducible exact LeO.refl _)
      |(with_reducible exact LeO.none _)
      |(with_reducible refine LeO.ite ?_ ?_)
      |(with_reducible refine LeO.bind ?_ (fun _=>?_))
      |exact ih0 _ _ _ _
      |exact spec_l01Cyclotomic.mono _ _
      |exact spec_l07Value.mono _ _ _ _
      |exact LeO.none _
      |refine LeO.ite ?_ ?_
      |refine LeO.bind ?_ (fun _=>?_)
set_option maxHeartbeats 8000000 in
set_option maxRecDepth 100000 in
theorem spec_l07Roots.calls (k:Nat) (a0:Int) (a1:Int) (r:List Int) (w:World) (h:spec_l07Roots.f k a0 a1=some r):
    Calls Try.prog 57 #[.int .i64 a0,.int .i64 a1] w fun e w'=>∃v0_:Value,e=.returned (v0_)∧Kd.R (Kd.int .i64) 2 w' w.heap.size (fun _=>True) v0_ r∧Below w.heap.size w w':=by
  have HB:=qAm (Below.refl w.heap.size w);have H:((spec_l01Cyclotomic.f k a0).bind fun t149=>(spec_l07Roots.l0 k a1 (([]:List Int)) t149 1))=some r:=h;clear h;obtain⟨y146,hy146⟩:∃y_:List Int,y_=(([]:List Int)):=⟨_,rfl⟩
  replace H:((spec_l01Cyclotomic.f k a0).bind fun t149=>(spec_l07Roots.l0 k a1 y146 t149 1))=some r:=by first|(rw [hy146];with_reducible exact H)|(have H2_:=(Option.bind_some _ _).symm.trans H;rw [hy146];with_reducible exact H2_)|(have H2_:=(Option.bind_some _ _).symm.trans H;with_reducible exact H2_)|with_reducible exact H|(rw [hy146];exact H)|exact H
  have Ny146:=qAm hy146;clear hy146;replace H:=qOb H;obtain⟨t149,A30,H⟩:=H;replace H:(spec_l07Roots.l0 k a1 y146 t149 1)=some r:=H;have A3:=qAm A30;clear A30;have H':=qAm H;clear H;go_enter Try.func57,Try.ntmps57;go_wp2_with (first|((with_reducible refine gate_dst (N:=8) rfl ?_);refine Kd.R_lit (Kd.int .i64) _ 2 ?hg (N:=8) ?hd (xs:=([]:List Int)) (inner:=[]) (ok:=fun _=>True) (okp:=fun _=>True) ?hr ?hp (fun _ hk=>hk) trivial (Below.refl _ _) (Nat.le_refl _) (by simp) ?_;(case hd=>rfl);(case hg=>rfl);(case hr=>first|(go_simp;done)|(go_simp;rfl));(case hp=>exact(Reps.none _ _));intro v147 w4 ho5 hb hg_ hnew_;clear hg_ hnew_;(first|rw [← Ny146.1] at ho5|(simp only [Int.reduceToNat] at ho5;rw [← Ny146.1] at ho5));have n0_:=qAm (Kd.R_lower ho5 (below_size qB18));have n1_:=qAm (below_step qB18 hb);clear HB;have HO148:=n0_;have HB:=n1_;clear n0_ n1_;clear hb ho5)|((with_reducible refine gate_callee (f:=102) rfl ?_);refine goesL_ (some 10) rfl rfl Try.func102 (by kernel_rfl) rfl #[.int .i64 a0] rfl qB17 ?_;(with_reducible refine(spec_l01Cyclotomic.calls k a0 t149 _ A3.1).mono ?_);rintro e w6 ⟨v150,rfl,ho0,hb⟩;refine⟨_,rfl,?_⟩;have n0_:=qAm (Kd.R_elder' qB33 (Kd.R_base ho0) hb);have n1_:=qAm (Kd.R_lower (Kd.R_new' ho0 (Kd.R_lt qB33)) (below_size qB18));have n2_:=qAm (below_step qB18 hb);clear HO148;clear HB;have HO148:=n0_;have HO151:=n1_;have HB:=n2_;clear n0_ n1_ n2_;(try clear hb);(try clear hb2);(try clear hk);(try clear hi);(try clear ho0)));try simp only [Act.put,qSa,qSc,qSb]
  go_loopg [5,7] k (fun kq v5 v7 w'=>∃(x5_1:List Int) (x7_1:Int),v7=.int .i64 x7_1∧Aside0 (spec_l07Roots.l0 kq a1 x5_1 t149 x7_1=some r)∧Aside0 (kq≤k)∧Aside0 (Kd.R (Kd.int .i64) 2 w' w.heap.size (fun k_=>some k_≠(v150:Value).ownBlock) v5 x5_1)∧Aside0 (Kd.R (Kd.int .i64) 2 w' w.heap.size (fun k_=>some k_≠(v5:Value).ownBlock) v150 t149)∧Aside0 (Below w.heap.size w w'))
  case atStart=>exact⟨(y146),(1),qB52,H',⟨Nat.le_refl _⟩,⟨by (with_reducible repeat(first|apply Kd.R_alloc|apply Kd.R_drewN|apply Kd.R_drew));exact Kd.R_mono HO148.1 (fun _ hk=>hk.2)⟩,⟨by (with_reducible repeat(first|apply Kd.R_alloc|apply Kd.R_drewN|apply Kd.R_drew));exact Kd.R_mono HO151.1 (fun _ hk=>hk.2)⟩,⟨by repeat(first|(with_reducible first|exact HB.1|apply below_alloc|apply pw_below_drewN|apply below_drew1)|exact HB.1)⟩⟩
  case round=>
    clear H';try clear c1
    try clear p2
    try clear c5
    obtain⟨x5_1,x7_1,rfl,HA,HK1,HO_5,HO_6,HB⟩:=hrel;cases gk with
    |zero=>exact absurd HA.1 (by simp [spec_l07Roots.l0])
    |succ k1=>
      have H:=HA.1;clear HA;simp only [spec_l07Roots.l0] at H
      by_cases c7:x7_1<a1
      · rw [if_pos c7] at H
        have c7b0:decide (x7_1<a1)=true:=decide_eq_true c7;clear c7;replace H:=qOb H;obtain⟨t152,A80,H⟩:=H;replace H:(if t152=0 then (if x5_1.length<17592186044416 then (spec_l07Roots.l0 k1 a1 (x5_1 ++ [x7_1]) t149 (wrap64 (x7_1+1))) else (none)) else (spec_l07Roots.l0 k1 a1 x5_1 t149 (wrap64 (x7_1+1))))=some r:=H;have A8:=qAm A80;clear A80
        by_cases c9:t152=0
        · rw [if_pos c9] at H
          have c9b0:(t152==0)=true:=beq_iff_eq.mpr c9;have c9b1:(t152 !=0)=false:=bne_eq_false_iff_eq.mpr c9;clear c9
          by_cases c10:x5_1.length<17592186044416
          · rw [if_pos c10] at H
            have LMc10:=qAm c10;clear c10;obtain⟨y153,hy153⟩:∃y_:List Int,y_=(x5_1 ++ [x7_1]):=⟨_,rfl⟩
            replace H:(spec_l07Roots.l0 k1 a1 y153 t149 (wrap64 (x7_1+1)))=some r:=by first|(rw [hy153];with_reducible exact H)|(have H2_:=(Option.bind_some _ _).symm.trans H;rw [hy153];with_reducible exact H2_)|(have H2_:=(Option.bind_some _ _).symm.trans H;with_reducible exact H2_)|with_reducible exact H|(rw [hy153];exact H)|exact H
            have Ny153:=qAm hy153;clear hy153;have H':=qAm H;clear H;obtain⟨Ao11,co11,eo11⟩:=Kd.R_slice HO_6.1;subst eo11;go_wp2_with (first|((with_reducible refine gate_callee (f:=58) rfl ?_);refine goesL_ (some 19) rfl rfl Try.func58 (by kernel_rfl) rfl #[.slice Ao11 t149.length co11,.int .i64 x7_1,.int .i64 a1] rfl qB17 ?_;(with_reducible refine(spec_l07Value.calls k1 _ _ t149 x7_1 a1 t152 _ ?side1 ?side2 A8.1).mono ?_);(case side1=>repeat(first|exact(Kd.R_reads' HO_6.1).2.2|(with_reducible refine Kd.C_alloc ?_ _)|(with_reducible refine Kd.C_drewN ?_ _)|(with_reducible refine Kd.C_drew ?_)));(case side2=>exact(Kd.R_reads' HO_6.1).2.1);rintro e w' ⟨rfl,⟨nd,rfl⟩⟩;refine⟨_,rfl,?_⟩)|((with_reducible refine gate_builtin (b:=.append) (xs:=#[.tmp 21,.tmp 23]) rfl ?_);at_builtin;refine Kd.R_append (Kd.int .i64) (w0:=w) w.heap.size rfl (.tmp 21) (.tmp 23) 22 2 (.int .i64 0) 8 rfl Try.underlying22 info2 rfl (by decide) (by omega) u5 x5_1 x7_1 [.int .i64 x7_1] (fun k_=>some k_≠(.slice Ao11 t149.length co11:Value).ownBlock) (fun _=>False) rfl rfl ?aP (fun _ hk=>hk.elim) ?aF ?aO ?aB ?aS ?aL ?_;(case aP=>exact rfl);(case aB=>exact qB18);(case aF=>exact(fun k_ hk=>Kd.fresh' (Kd.R_lt qB44) k_ hk));(case aO=>exact(by (with_reducible repeat(first|apply Kd.R_alloc|apply Kd.R_drewN|apply Kd.R_drew));exact HO_5.1));(case aS=>exact(below_size qB18));(case aL=>have:=LMc10.1;omega);intro v154 w12 ho hb hg hat;rw [← Ny153.1] at ho;have n0_:=qAm (Kd.R_after (ok:=(fun _=>True)) (by (with_reducible repeat(first|apply Kd.R_alloc|apply Kd.R_drewN|apply Kd.R_drew));exact Kd.R_mono HO_6.1 (fun _ hk=>⟨trivial,hk⟩)) hg hat);have n1_:=qAm (hb);have n2_:=qAm (ho);clear HO_6;clear HB;clear HO_5;have HO_6:=n0_;have HB:=n1_;have HO155:=n2_;clear n0_ n1_ n2_;clear ho hb hg hat))
            (first|go_roundg k1|((try simp only [add_plain] at *);go_roundg k1))
            case measure=>have:=HK1.1;omega
            case rel=>exact⟨(y153),(wrap64 (x7_1+1)),qB52,H',⟨by have:=HK1.1;omega⟩,⟨by (with_reducible repeat(first|apply Kd.R_alloc|apply Kd.R_drewN|apply Kd.R_drew));exact HO155.1⟩,⟨by (with_reducible repeat(first|apply Kd.R_alloc|apply Kd.R_drewN|apply Kd.R_drew));exact Kd.R_mono HO_6.1 (fun _ hk=>hk.2)⟩,⟨by repeat(first|(with_reducible first|exact HB.1|apply below_alloc|apply pw_below_drewN|apply below_drew1)|exact HB.1)⟩⟩
          · rw [if_neg c10] at H
            exact absurd H (by simp)
        · rw [if_neg c9] at H
          have c9b0:(t152==0)=false:=beq_eq_false_iff_ne.mpr c9;have c9b1:(t152 !=0)=true:=bne_iff_ne.mpr c9;have H':=qAm H;clear H;obtain⟨Ao13,co13,eo13⟩:=Kd.R_slice HO_6.1;subst eo13;go_wp2_with (first|((with_reducible refine gate_callee (f:=58) rfl ?_);refine goesL_ (some 19) rfl rfl Try.func58 (by kernel_rfl) rfl #[.slice Ao13 t149.length co13,.int .i64 x7_1,.int .i64 a1] rfl qB17 ?_;(with_reducible refine(spec_l07Value.calls k1 _ _ t149 x7_1 a1 t152 _ ?side1 ?side2 A8.1).mono ?_);(case side1=>repeat(first|exact(Kd.R_reads' HO_6.1).2.2|(with_reducible refine Kd.C_alloc ?_ _)|(with_reducible refine Kd.C_drewN ?_ _)|(with_reducible refine Kd.C_drew ?_)));(case side2=>exact(Kd.R_reads' HO_6.1).2.1);rintro e w' ⟨rfl,⟨nd,rfl⟩⟩;refine⟨_,rfl,?_⟩))
          (first|go_roundg k1|((try simp only [add_plain] at *);go_roundg k1))
          case measure=>have:=HK1.1;omega
          case rel=>exact⟨(x5_1),(wrap64 (x7_1+1)),qB52,H',⟨by have:=HK1.1;omega⟩,⟨by (with_reducible repeat(first|apply Kd.R_alloc|apply Kd.R_drewN|apply Kd.R_drew));exact HO_5.1⟩,⟨by (with_reducible repeat(first|apply Kd.R_alloc|apply Kd.R_drewN|apply Kd.R_drew));exact HO_6.1⟩,⟨by repeat(first|(with_reducible first|exact HB.1|apply below_alloc|apply pw_below_drewN|apply below_drew1)|exact HB.1)⟩⟩
      · rw [if_neg c7] at H
        have c7b0:decide (x7_1<a1)=false:=decide_eq_false c7;clear c7;obtain rfl:=Option.some.inj H;go_wp2;go_ret;exact⟨_,by first|rfl|(simp [errW_none,errW_some] <;> rfl)|(simp [*,errW_none,errW_some] <;> rfl),by (with_reducible repeat(first|apply Kd.R_alloc|apply Kd.R_drewN|apply Kd.R_drew));exact Kd.R_mono HO_5.1 (fun _ hk=>trivial),by repeat(first|(with_reducible first|exact HB.1|apply below_alloc|apply pw_below_drewN|apply below_drew1)|exact HB.1)⟩

/-! ### spec_l01Gcd: function 128 -/
def spec_l01Gcd.l0:Nat→Int→Int→Option (Int)
  |0,_,_=>none
  |k+1,x0,x1=>if x1=0 then (some (mx x0 (wrap64 (-x0)))) else (spec_l01Gcd.l0 k x1 (Int.tmod x0 x1))
def spec_l01Gcd.f (k:Nat) (a0:Int) (a1:Int):Option (Int):=spec_l01Gcd.l0 k a0 a1
theorem spec_l01Gcd.mono_l:∀k,(∀y0 y1,LeO (spec_l01Gcd.l0 k y0 y1) (spec_l01Gcd.l0 (k+1) y0 y1))
  |0=>fun _ _ r h=>by simp [spec_l01Gcd.l0] at h
  |k+1=>by
    have ih0:=spec_l01Gcd.mono_l k
    · intro y0 y1
      unfold spec_l01Gcd.l0;repeat' first
      |(with_reducible exact ih0 _ _)
      |(with_reducible exact LeO.refl _)
      |(with_reducible exact LeO.none _)
      |(with_reducible refine LeO.ite ?_ ?_)
      |(with_reducible refine LeO.bind ?_ (fun _=>?_))
      |exact ih0 _ _
      |exact LeO.none _
      |refine LeO.ite ?_ ?_
      |refine LeO.bind ?_ (fun _=>?_)
theorem spec_l01Gcd.mono:∀a0 a1 k,LeO (spec_l01Gcd.f k a0 a1) (spec_l01Gcd.f (k+1) a0 a1):=by
  intro a0 a1 k;have ih0:=spec_l01Gcd.mono_l k;unfold spec_l01Gcd.f;repeat' first
      |(with_reducible exact ih0 _ _)
      |(with_reducible exact LeO.refl _)
      |(with_reducible exact LeO.none _)
      |(with_reducible refine LeO.ite ?_ ?_)
      |(with_reducible refine LeO.bind ?_ (fun _=>?_))
      |exact ih0 _ _
      |exact LeO.none _
      |refine LeO.ite ?_ ?_
      |refine LeO.bind ?_ (fun _=>?_)
set_option maxHeartbeats 8000000 in
set_option maxRecDepth 100000 in
theorem spec_l01Gcd.calls (k:Nat) (a0:Int) (a1:Int) (r:Int) (w:World) (h:spec_l01Gcd.f k a0 a1=some r):
    Calls Try.prog 128 #[.int .i64 a0,.int .i64 a1] w fun e w'=>e=.returned (.int .i64 r)∧Below w.heap.size w w':=by
  have HB:=qAm (Below.refl w.heap.size w);have H:(spec_l01Gcd.l0 k a0 a1)=some r:=h;clear h;have H':=qAm H;clear H;go_enter Try.func128,Try.ntmps128;go_wp2;try simp only [Act.put,qSa,qSc,qSb]
  go_loopg [0,1] k (fun kq v0 v1 w'=>∃(x0_1:Int) (x1_1:Int),v0=.int .i64 x0_1∧v1=.int .i64 x1_1∧Aside0 (spec_l01Gcd.l0 kq x0_1 x1_1=some r)∧Aside0 (kq≤k)∧Aside0 (Below w.heap.size w w'))
  case atStart=>exact⟨(a0),(a1),qB52,qB52,H',⟨Nat.le_refl _⟩,⟨by repeat(first|(with_reducible first|exact HB.1|apply below_alloc|apply pw_below_drewN|apply below_drew1)|exact HB.1)⟩⟩
  case round=>
    clear H';try clear c1
    try clear p2
    obtain⟨x0_1,x1_1,rfl,rfl,HA,HK1,HB⟩:=hrel;cases gk with
    |zero=>exact absurd HA.1 (by simp [spec_l01Gcd.l0])
    |succ k1=>
      have H:=HA.1;clear HA;simp only [spec_l01Gcd.l0] at H
      by_cases c3:x1_1=0
      · rw [if_pos c3] at H
        have c3b0:(x1_1==0)=true:=beq_iff_eq.mpr c3;have c3b1:(x1_1 !=0)=false:=bne_eq_false_iff_eq.mpr c3;clear c3;obtain⟨ji4,hji4⟩:∃j_:Int,(mx x0_1 (wrap64 (-x0_1)))=j_:=⟨_,rfl⟩
        replace H:(some ji4)=some r:=by first|(rw [hji4] at H;exact H)|(simp only [hji4] at H ⊢;exact H)
        have hji4_:(if x0_1<(wrap64 (-x0_1)) then (wrap64 (-x0_1)) else x0_1)=ji4:=hji4;obtain rfl:=Option.some.inj H;go_wp2;go_ret;exact⟨by first|rfl|(simp [errW_none,errW_some] <;> rfl)|(simp only [← hji4];first|rfl|(simp [errW_none,errW_some] <;> rfl))|(simp [*,errW_none,errW_some] <;> rfl),by repeat(first|(with_reducible first|exact HB.1|apply below_alloc|apply pw_below_drewN|apply below_drew1)|exact HB.1)⟩
      · rw [if_neg c3] at H
        have c3b0:(x1_1==0)=false:=beq_eq_false_iff_ne.mpr c3;have c3b1:(x1_1 !=0)=true:=bne_iff_ne.mpr c3;have H':=qAm H;clear H;go_wp2
        (first|go_roundg k1|((try simp only [add_plain] at *);go_roundg k1))
        case measure=>have:=HK1.1;omega
        case rel=>exact⟨(x1_1),(Int.tmod x0_1 x1_1),qB52,qB52,H',⟨by have:=HK1.1;omega⟩,⟨by repeat(first|(with_reducible first|exact HB.1|apply below_alloc|apply pw_below_drewN|apply below_drew1)|exact HB.1)⟩⟩

/-! ### spec_l01Phi: function 99 -/
def spec_l01Phi.l0:Nat→Int→Int→Int→Option (Int)
  |0,_,_,_=>none
  |k+1,x0,x3,x4=>if x4≤x0 then ((spec_l01Gcd.f k x4 x0).bind fun t156=>(if t156=1 then (spec_l01Phi.l0 k x0 (wrap64 (x3+1)) (wrap64 (x4+1))) else (spec_l01Phi.l0 k x0 x3 (wrap64 (x4+1))))) else (some x3)
def spec_l01Phi.f (k:Nat) (a0:Int):Option (Int):=spec_l01Phi.l0 k a0 0 1
theorem spec_l01Phi.mono_l:∀k,(∀y0 y1 y2,LeO (spec_l01Phi.l0 k y0 y1 y2) (spec_l01Phi.l0 (k+1) y0 y1 y2))
  |0=>fun _ _ _ r h=>by simp [spec_l01Phi.l0] at h
  |k+1=>by
    have ih0:=spec_l01Phi.mono_l k
    · intro y0 y1 y2
      unfold spec_l01Phi.l0;repeat' first
      |(with_reducible exact ih0 _ _ _)
      |(with_reducible exact spec_l01Gcd.mono _ _ _)
      |(with_reducible exact LeO.refl _)
      |(with_reducible exact LeO.none _)
      |(with_reducible refine LeO.ite ?_ ?_)
      |(with_reducible refine LeO.bind ?_ (fun _=>?_))
      |exact ih0 _ _ _
      |exact spec_l01Gcd.mono _ _ _
      |exact LeO.none _
      |refine LeO.ite ?_ ?_
      |refine LeO.bind ?_ (fun _=>?_)
theorem spec_l01Phi.mono:∀a0 k,LeO (spec_l01Phi.f k a0) (spec_l01Phi.f (k+1) a0):=by
  intro a0 k;have ih0:=spec_l01Phi.mono_l k;unfold spec_l01Phi.f;repeat' first
      |(with_reducible exact ih0 _ _ _)
      |(with_reducible exact spec_l01Gcd.mono _ _ _)
      |(with_reducible exact LeO.refl _)
      |(with_reducible exact LeO.none _)
      |(with_reducible refine LeO.ite ?_ ?_)
      |(with_reducible refine LeO.bind ?_ (fun _=>?_))
      |exact ih0 _ _ _
      |exact spec_l01Gcd.mono _ _ _
      |exact LeO.none _
      |refine LeO.ite ?_ ?_
      |refine LeO.bind ?_ (fun _=>?_)
set_option maxHeartbeats 8000000 in
set_option maxRecDepth 100000 in
theorem spec_l01Phi.calls (k:Nat) (a0:Int) (r:Int) (w:World) (h:spec_l01Phi.f k a0=some r):
    Calls Try.prog 99 #[.int .i64 a0] w fun e w'=>e=.returned (.int .i64 r)∧Below w.heap.size w w':=by
  have HB:=qAm (Below.refl w.heap.size w);have H:(spec_l01Phi.l0 k a0 0 1)=some r:=h;clear h;have H':=qAm H;clear H;go_enter Try.func99,Try.ntmps99;go_wp2;try simp only [Act.put,qSa,qSc,qSb]
  go_loopg [3,4] k (fun kq v3 v4 w'=>∃(x3_1:Int) (x4_1:Int),v3=.int .i64 x3_1∧v4=.int .i64 x4_1∧Aside0 (spec_l01Phi.l0 kq a0 x3_1 x4_1=some r)∧Aside0 (kq≤k)∧Aside0 (Below w.heap.size w w'))
  case atStart=>exact⟨(0),(1),qB52,qB52,H',⟨Nat.le_refl _⟩,⟨by repeat(first|(with_reducible first|exact HB.1|apply below_alloc|apply pw_below_drewN|apply below_drew1)|exact HB.1)⟩⟩
  case round=>
    clear H';obtain⟨x3_1,x4_1,rfl,rfl,HA,HK1,HB⟩:=hrel;cases gk with
    |zero=>exact absurd HA.1 (by simp [spec_l01Phi.l0])
    |succ k1=>
      have H:=HA.1;clear HA;simp only [spec_l01Phi.l0] at H
      by_cases c2:x4_1≤a0
      · rw [if_pos c2] at H
        have c2b0:decide (x4_1≤a0)=true:=decide_eq_true c2;clear c2;replace H:=qOb H;obtain⟨t156,A30,H⟩:=H;replace H:(if t156=1 then (spec_l01Phi.l0 k1 a0 (wrap64 (x3_1+1)) (wrap64 (x4_1+1))) else (spec_l01Phi.l0 k1 a0 x3_1 (wrap64 (x4_1+1))))=some r:=H;have A3:=qAm A30;clear A30
        by_cases c4:t156=1
        · rw [if_pos c4] at H
          have c4b0:(t156==1)=true:=beq_iff_eq.mpr c4;have c4b1:(t156 !=1)=false:=bne_eq_false_iff_eq.mpr c4;clear c4;have H':=qAm H;clear H;go_wp2_with (first|((with_reducible refine gate_callee (f:=128) rfl ?_);refine goesL_ (some 12) rfl rfl Try.func128 (by kernel_rfl) rfl #[.int .i64 x4_1,.int .i64 a0] rfl qB17 ?_;(with_reducible refine(spec_l01Gcd.calls k1 x4_1 a0 t156 _ A3.1).mono ?_);rintro e w5 ⟨rfl,hb⟩;refine⟨_,rfl,?_⟩;have n0_:=qAm (below_step qB18 hb);clear HB;have HB:=n0_;clear n0_;(try clear hb);(try clear hb2);(try clear hk);(try clear hi)))
          (first|go_roundg k1|((try simp only [add_plain] at *);go_roundg k1))
          case measure=>have:=HK1.1;omega
          case rel=>exact⟨(wrap64 (x3_1+1)),(wrap64 (x4_1+1)),qB52,qB52,H',⟨by have:=HK1.1;omega⟩,⟨by repeat(first|(with_reducible first|exact HB.1|apply below_alloc|apply pw_below_drewN|apply below_drew1)|exact HB.1)⟩⟩
        · rw [if_neg c4] at H
          have c4b0:(t156==1)=false:=beq_eq_false_iff_ne.mpr c4;have c4b1:(t156 !=1)=true:=bne_iff_ne.mpr c4;have H':=qAm H;clear H;go_wp2_with (first|((with_reducible refine gate_callee (f:=128) rfl ?_);refine goesL_ (some 12) rfl rfl Try.func128 (by kernel_rfl) rfl #[.int .i64 x4_1,.int .i64 a0] rfl qB17 ?_;(with_reducible refine(spec_l01Gcd.calls k1 x4_1 a0 t156 _ A3.1).mono ?_);rintro e w6 ⟨rfl,hb⟩;refine⟨_,rfl,?_⟩;have n0_:=qAm (below_step qB18 hb);clear HB;have HB:=n0_;clear n0_;(try clear hb);(try clear hb2);(try clear hk);(try clear hi)))
          (first|go_roundg k1|((try simp only [add_plain] at *);go_roundg k1))
          case measure=>have:=HK1.1;omega
          case rel=>exact⟨(x3_1),(wrap64 (x4_1+1)),qB52,qB52,H',⟨by have:=HK1.1;omega⟩,⟨by repeat(first|(with_reducible first|exact HB.1|apply below_alloc|apply pw_below_drewN|apply below_drew1)|exact HB.1)⟩⟩
      · rw [if_neg c2] at H
        have c2b0:decide (x4_1≤a0)=false:=decide_eq_false c2;clear c2;obtain rfl:=Option.some.inj H;go_wp2;go_ret;exact⟨by first|rfl|(simp [errW_none,errW_some] <;> rfl)|(simp [*,errW_none,errW_some] <;> rfl),by repeat(first|(with_reducible first|exact HB.1|apply below_alloc|apply pw_below_drewN|apply below_drew1)|exact HB.1)⟩

/-! ### spec_l01Zero: function 70 -/
def spec_l01Zero.f (k:Nat) (a0:Int):Option (Int×List Int):=(spec_l01Phi.f k a0).bind fun t158=>(if 0≤t158 then (if (t158:Int).toNat≤35184372088832 then (some (a0,(List.replicate (t158:Int).toNat 0))) else (none)) else (none))
theorem spec_l01Zero.mono:∀a0 k,LeO (spec_l01Zero.f k a0) (spec_l01Zero.f (k+1) a0):=by
  intro a0 k;unfold spec_l01Zero.f;repeat' first
      |(with_reducible exact spec_l01Phi.mono _ _)
      |(with_reducible exact LeO.refl _)
      |(with_reducible exact LeO.none _)
      |(with_reducible refine LeO.ite ?_ ?_)
      |(with_reducible refine LeO.bind ?_ (fun _=>?_))
      |exact spec_l01Phi.mono _ _
      |exact LeO.none _
      |refine LeO.ite ?_ ?_
      |refine LeO.bind ?_ (fun _=>?_)
set_option maxHeartbeats 8000000 in
set_option maxRecDepth 100000 in
theorem spec_l01Zero.calls (k:Nat) (a0:Int) (r1:Int) (r2:List Int) (w:World) (h:spec_l01Zero.f k a0=some (r1,r2)):
    Calls Try.prog 70 #[.int .i64 a0] w fun e w'=>∃v1_:Value,e=.returned (.agg #[.int .i64 r1,v1_])∧Kd.R (Kd.int .i64) 2 w' w.heap.size (fun _=>True) v1_ r2∧Below w.heap.size w w':=by
  have hu28:=Try.underlying28;have HB:=qAm (Below.refl w.heap.size w);have H:((spec_l01Phi.f k a0).bind fun t158=>(if 0≤t158 then (if (t158:Int).toNat≤35184372088832 then (some (a0,(List.replicate (t158:Int).toNat 0))) else (none)) else (none)))=some (r1,r2):=h;clear h;replace H:=qOb H;obtain⟨t158,A20,H⟩:=H;replace H:(if 0≤t158 then (if (t158:Int).toNat≤35184372088832 then (some (a0,(List.replicate (t158:Int).toNat 0))) else (none)) else (none))=some (r1,r2):=H;have A2:=qAm A20;clear A20
  by_cases c3:0≤t158
  · rw [if_pos c3] at H
    have c3b0:=eq_true c3;have c3b1:decide (0≤t158)=true:=decide_eq_true c3;clear c3
    by_cases c4:(t158:Int).toNat≤35184372088832
    · rw [if_pos c4] at H
      have c4b0:=eq_true c4;have c4b1:decide ((t158:Int).toNat≤35184372088832)=true:=decide_eq_true c4;clear c4;obtain⟨y159,hy159⟩:∃y_:List Int,y_=(List.replicate (t158:Int).toNat 0):=⟨_,rfl⟩
      replace H:(some (a0,y159))=some (r1,r2):=by first|(rw [hy159];with_reducible exact H)|(have H2_:=(Option.bind_some _ _).symm.trans H;rw [hy159];with_reducible exact H2_)|(have H2_:=(Option.bind_some _ _).symm.trans H;with_reducible exact H2_)|with_reducible exact H|(rw [hy159];exact H)|exact H
      have Ny159:=qAm hy159;clear hy159;simp only [Option.some.injEq,Prod.mk.injEq] at H;obtain⟨rfl,rfl⟩:=H;go_enter Try.func70,Try.ntmps70;go_wp2_with (first|((with_reducible refine gate_dst (N:=2) rfl ?_);refine box_event ?hg (N:=2) ?hd (cs:=#[.int .i64 0,.slice none 0 0]) (t:=28) ?hr ?_;(case hd=>rfl);(case hg=>rfl);(case hr=>first|(go_simp;done)|(go_simp;rfl));intro gb157 hg w5 hbox hb;have n0_:=qAm (below_step qB18 hb);have n1_:=qAm (hbox);have n2_:=qAm ((by rw [hg];exact(below_size qB18):w.heap.size≤gb157));have n3_:=qAm ((by rw [hg];exact(below_size qB18):w.heap.size≤gb157));clear HB;have HB:=n0_;have BK157:=n1_;have GW157:=n2_;have GE157:=n3_;clear n0_ n1_ n2_ n3_;clear hb hbox hg)|((with_reducible refine gate_callee (f:=99) rfl ?_);refine goesL_ (some 5) rfl rfl Try.func99 (by kernel_rfl) rfl #[.int .i64 a0] rfl qB17 ?_;(with_reducible refine(spec_l01Phi.calls k a0 t158 _ A2.1).mono ?_);rintro e w6 ⟨rfl,hb⟩;refine⟨_,rfl,?_⟩;have n0_:=qAm (blk_below (g:=gb157) (o:=.cells #[.int .i64 0,.slice none 0 0] 28 (0,0)) qB21 hb);have n1_:=qAm (below_step qB13 hb);clear BK157;clear HB;have BK157:=n0_;have HB:=n1_;clear n0_ n1_;(try clear hb);(try clear hb2);(try clear hk);(try clear hi))|((with_reducible refine gate_dst (N:=6) rfl ?_);refine Kd.R_make (Kd.int .i64) _ 2 rfl (N:=6) rfl 22 _ _ rfl t158 rfl rfl Try.underlying22 (.int .i64 0) 8 info2 rfl (by decide) (by omega) 0 (ok:=fun _=>True) (okp:=fun _=>True) rfl (fun _ hk=>hk) trivial (of_decide_eq_true qB51) (Nat.le_trans (Nat.mul_le_mul_right _ (of_decide_eq_true qB51:t158.toNat≤35184372088832)) (by omega)) (Below.refl _ _) (Nat.le_refl _) ?_;intro v160 w7 ho8 hb hg_ hnew_;clear hg_ hnew_;(first|rw [← Ny159.1] at ho8|(simp only [Int.reduceToNat] at ho8;rw [← Ny159.1] at ho8));have n0_:=qAm (Kd.R_lower ho8 (below_size qB13));have n1_:=qAm (blk_below (g:=gb157) (o:=.cells #[.int .i64 0,.slice none 0 0] 28 (0,0)) qB21 hb);have n2_:=qAm (below_step qB13 hb);clear BK157;clear HB;have HO161:=n0_;have BK157:=n1_;have HB:=n2_;clear n0_ n1_ n2_;clear hb ho8;obtain⟨Ao9,co9,eo9⟩:=Kd.R_slice HO161.1;subst eo9;have hcz10_0:w7.cell? ⟨gb157,0,none⟩=some (.int .i64 0):=(blk_cell BK157.1 0).trans rfl;have hcz10_1:w7.cell? ⟨gb157,1,none⟩=some (.slice none 0 0):=(blk_cell BK157.1 1).trans rfl;have hfz10_0:=blk_frozen BK157.1 0;have hfz10_1:=blk_frozen BK157.1 1));refine bodyPost_ret (results_cell_row rfl _ _ gb157 28 #[.int .i64 a0,.slice Ao9 y159.length co9] (0,0) _ rfl (by (with_reducible repeat(first|refine blk_drewN ?_ _|refine blk_drew ?_|refine blk_alloc ?_ _));refine blk_put (cs:=#[.int .i64 a0,.slice none 0 0]) ?_ 1 _ rfl;(with_reducible repeat(first|refine blk_drewN ?_ _|refine blk_drew ?_|refine blk_alloc ?_ _));refine blk_put (cs:=#[.int .i64 0,.slice none 0 0]) ?_ 0 _ rfl;(with_reducible repeat(first|refine blk_drewN ?_ _|refine blk_drew ?_|refine blk_alloc ?_ _));exact BK157.1) Try.underlying28 rfl (by kernel_rfl)) rfl ?_;exact⟨_,by first|rfl|(simp [errW_none,errW_some] <;> rfl)|(simp [*,errW_none,errW_some] <;> rfl),by (with_reducible repeat(first|apply Kd.R_alloc|apply Kd.R_drewN|apply Kd.R_drew));exact Kd.R_mono (Kd.R_far (p:=⟨gb157,1,none⟩) (Kd.R_far (p:=⟨gb157,0,none⟩) (Kd.R_types HO161.1 BK157.1 (by decide)) (fun _ hk=>hk.2) (.int .i64 a0)) (fun _ hk=>hk.2) (.slice Ao9 y159.length co9)) (fun _ hk=>trivial),by repeat(first|(with_reducible first|exact HB.1|apply below_alloc|apply pw_below_drewN|apply below_drew1|refine below_set ?_ GE157.1)|exact HB.1)⟩
    · rw [if_neg c4] at H
      exact absurd H (by simp)
  · rw [if_neg c3] at H
    exact absurd H (by simp)

/-! ### spec_l07Power: function 124 -/
def spec_l07Power.l0:Nat→Int→Int→Int→Int→Option (Int)
  |0,_,_,_,_=>none
  |k+1,x0,x1,x2,x7=>if x2 > 0 then (if x0=0 then (none) else (spec_l07Power.l0 k x0 x1 (wrap64 (x2 - 1)) (Int.tmod (wrap64 (x7*x1)) x0))) else (some x7)
def spec_l07Power.f (k:Nat) (a0:Int) (a1:Int) (a2:Int):Option (Int):=spec_l07Power.l0 k a0 a1 a2 1
theorem spec_l07Power.mono_l:∀k,(∀y0 y1 y2 y3,LeO (spec_l07Power.l0 k y0 y1 y2 y3) (spec_l07Power.l0 (k+1) y0 y1 y2 y3))
  |0=>fun _ _ _ _ r h=>by simp [spec_l07Power.l0] at h
  |k+1=>by
    have ih0:=spec_l07Power.mono_l k
    · intro y0 y1 y2 y3
      unfold spec_l07Power.l0;repeat' first
      |(with_reducible exact ih0 _ _ _ _)
      |(with_reducible exact LeO.refl _)
      |(with_reducible exact LeO.none _)
      |(with_reducible refine LeO.ite ?_ ?_)
      |(with_reducible refine LeO.bind ?_ (fun _=>?_))
      |exact ih0 _ _ _ _
      |exact LeO.none _
      |refine LeO.ite ?_ ?_
      |refine LeO.bind ?_ (fun _=>?_)
theorem spec_l07Power.mono:∀a0 a1 a2 k,LeO (spec_l07Power.f k a0 a1 a2) (spec_l07Power.f (k+1) a0 a1 a2):=by
  intro a0 a1 a2 k;have ih0:=spec_l07Power.mono_l k;unfold spec_l07Power.f;repeat' first
      |(with_reducible exact ih0 _ _ _ _)
      |(with_reducible exact LeO.refl _)
      |(with_reducible exact LeO.none _)
      |(with_reducible refine LeO.ite ?_ ?_)
      |(with_reducible refine LeO.bind ?_ (fun _=>?_))
      |exact ih0 _ _ _ _
      |exact LeO.none _
      |refine LeO.ite ?_ ?_
      |refine LeO.bind ?_ (fun _=>?_)
set_option maxHeartbeats 8000000 in
set_option maxRecDepth 100000 in
theorem spec_l07Power.calls (k:Nat) (a0:Int) (a1:Int) (a2:Int) (r:Int) (w:World) (h:spec_l07Power.f k a0 a1 a2=some r):
    Calls Try.prog 124 #[.int .i64 a0,.int .i64 a1,.int .i64 a2] w fun e w'=>e=.returned (.int .i64 r)∧Drawn0 w w':=by
  have H:(spec_l07Power.l0 k a0 a1 a2 1)=some r:=h;clear h;have H':=qAm H;clear H;go_enter Try.func124,Try.ntmps124;go_wp2;try simp only [Act.put,qSa,qSc,qSb]
  go_loopg [2,7] k (fun kq v2 v7 w'=>∃(x2_1:Int) (x7_1:Int),v2=.int .i64 x2_1∧v7=.int .i64 x7_1∧Aside0 (spec_l07Power.l0 kq a0 a1 x2_1 x7_1=some r)∧Aside0 (kq≤k)∧Drawn0 w w')
  case atStart=>exact⟨(a2),(1),qB52,qB52,H',⟨Nat.le_refl _⟩,by repeat(first|exact Drawn0.refl _|apply Drawn0.step)⟩
  case round=>
    clear H';try clear c1
    try clear p2
    obtain⟨x2_1,x7_1,rfl,rfl,HA,HK1,⟨m1,rfl⟩⟩:=hrel;cases gk with
    |zero=>exact absurd HA.1 (by simp [spec_l07Power.l0])
    |succ k1=>
      have H:=HA.1;clear HA;simp only [spec_l07Power.l0] at H
      by_cases c4:x2_1 > 0
      · rw [if_pos c4] at H
        have c4b0:decide (0<x2_1)=true:=decide_eq_true c4;clear c4
        by_cases c5:a0=0
        · rw [if_pos c5] at H
          exact absurd H (by simp)
        · rw [if_neg c5] at H
          have c5b0:(a0==0)=false:=beq_eq_false_iff_ne.mpr c5;have c5b1:(a0 !=0)=true:=bne_iff_ne.mpr c5;have H':=qAm H;clear H;go_wp2
          (first|go_roundg k1|((try simp only [add_plain] at *);go_roundg k1))
          case measure=>have:=HK1.1;omega
          case rel=>exact⟨(wrap64 (x2_1 - 1)),(Int.tmod (wrap64 (x7_1*a1)) a0),qB52,qB52,H',⟨by have:=HK1.1;omega⟩,by repeat(first|exact Drawn0.refl _|apply Drawn0.step)⟩
      · rw [if_neg c4] at H
        have c4b0:decide (0<x2_1)=false:=decide_eq_false c4;clear c4;obtain rfl:=Option.some.inj H;go_wp2;go_ret;exact⟨by first|rfl|(simp;done)|(simp [*];done),by repeat(first|exact Drawn0.refl _|apply Drawn0.step)⟩

/-! ### spec_l07Inverse: function 84 -/
def spec_l07Inverse.f (k:Nat) (a0:Int) (a1:Int):Option (Int):=if a0=0 then (none) else ((spec_l07Power.f k a0 (Int.tmod (wrap64 ((Int.tmod a1 a0)+a0)) a0) (wrap64 (a0 - 2))).bind fun t162=>(some t162))
theorem spec_l07Inverse.mono:∀a0 a1 k,LeO (spec_l07Inverse.f k a0 a1) (spec_l07Inverse.f (k+1) a0 a1):=by
  intro a0 a1 k;unfold spec_l07Inverse.f;repeat' first
      |(with_reducible exact spec_l07Power.mono _ _ _ _)
      |(with_reducible exact LeO.refl _)
      |(with_reducible exact LeO.none _)
      |(with_reducible refine LeO.ite ?_ ?_)
      |(with_reducible refine LeO.bind ?_ (fun _=>?_))
      |exact spec_l07Power.mono _ _ _ _
      |exact LeO.none _
      |refine LeO.ite ?_ ?_
      |refine LeO.bind ?_ (fun _=>?_)
set_option maxHeartbeats 8000000 in
set_option maxRecDepth 100000 in
theorem spec_l07Inverse.calls (k:Nat) (a0:Int) (a1:Int) (r:Int) (w:World) (h:spec_l07Inverse.f k a0 a1=some r):
    Calls Try.prog 84 #[.int .i64 a0,.int .i64 a1] w fun e w'=>e=.returned (.int .i64 r)∧Drawn0 w w':=by
  have H:(if a0=0 then (none) else ((spec_l07Power.f k a0 (Int.tmod (wrap64 ((Int.tmod a1 a0)+a0)) a0) (wrap64 (a0 - 2))).bind fun t162=>(some t162)))=some r:=h;clear h
  by_cases c3:a0=0
  · rw [if_pos c3] at H
    exact absurd H (by simp)
  · rw [if_neg c3] at H
    have c3b0:(a0==0)=false:=beq_eq_false_iff_ne.mpr c3;have c3b1:(a0 !=0)=true:=bne_iff_ne.mpr c3;replace H:=qOb H;obtain⟨t162,A40,H⟩:=H;replace H:(some t162)=some r:=H;have A4:=qAm A40;clear A40;obtain rfl:=Option.some.inj H;go_enter Try.func84,Try.ntmps84;go_wp2_with (first|((with_reducible refine gate_callee (f:=124) rfl ?_);refine goesL_ (some 15) rfl rfl Try.func124 (by kernel_rfl) rfl #[.int .i64 a0,.int .i64 (Int.tmod (wrap64 ((Int.tmod a1 a0)+a0)) a0),.int .i64 (wrap64 (a0 - 2))] rfl qB17 ?_;(with_reducible refine(spec_l07Power.calls k a0 (Int.tmod (wrap64 ((Int.tmod a1 a0)+a0)) a0) (wrap64 (a0 - 2)) t162 _ A4.1).mono ?_);rintro e w' ⟨rfl,⟨nd,rfl⟩⟩;refine⟨_,rfl,?_⟩));go_ret;exact⟨by first|rfl|(simp;done)|(simp [*];done),by repeat(first|exact Drawn0.refl _|apply Drawn0.step)⟩

end Go.Proofs.Ytefhabkikaadiaa.PFnExactCycloAtResidues
