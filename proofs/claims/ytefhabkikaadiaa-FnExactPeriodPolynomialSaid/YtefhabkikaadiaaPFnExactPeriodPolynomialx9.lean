/- The functions that the law reaches, as plain functions, each with the proof that the program comes to it; no condition. Written by a program of this session (wip/mp.py) over the printing of the kit; what is marked HAND is told by hand. -/
import Derived.Test.YtefhabkikaadiaaPFnExactPeriodPolynomialx0
import Derived.Test.YtefhabkikaadiaaPFnExactPeriodPolynomialx1
import Derived.Test.YtefhabkikaadiaaPFnExactPeriodPolynomialx5
import Derived.Test.YtefhabkikaadiaaPFnExactPeriodPolynomialx8
namespace Go.Proofs.Ytefhabkikaadiaa.PFnExactPeriodPolynomial
open Go.RowKit Go.Proofs.YtefhabkikaadiaaW.PrintWords Go.Proofs.YtefhabkikaadiaaW.PrintLast Go.Proofs.YtefhabkikaadiaaW.PrintMore
attribute [local go_sem] max2_int min2_int max_two min_two max_three min_three max_four min_four   -- for this text's walks alone
set_option linter.unusedVariables false
set_option linter.unusedSimpArgs false

/-! ### laws_FnExactPeriodPolynomial: function 6 -/
mutual
def laws_FnExactPeriodPolynomial.j0:Nat→Int→Int→List Int→Int→List Int→Bool→Option (Bool)
  |0,_,_,_,_,_,_=>none
  |k+1,x0,x1,x5,x6,x7,x33=>if x33=true then (some false) else ((laws_markInt64S.f k x7 1).bind fun bt322=>((laws_heldInt64S.f k bt322.2 1).bind fun t324=>(if t324<0 then (some false) else (if t324=bt322.1 then ((impl_PeriodPolynomial.f k x0 x1).bind fun bt325=>((laws_eqInt64S.f k bt325.1 x5).bind fun t329=>(if t329=true then (laws_FnExactPeriodPolynomial.j1 k bt322.2 bt322.1 (bt325.2 !=x6)) else (laws_FnExactPeriodPolynomial.j1 k bt322.2 bt322.1 true)))) else (some false)))))
def laws_FnExactPeriodPolynomial.j1:Nat→List Int→Int→Bool→Option (Bool)
  |0,_,_,_=>none
  |k+1,x7,x9,x59=>if x59=true then (some false) else ((laws_heldInt64S.f k x7 1).bind fun t330=>(if t330<0 then (some false) else (if t330=x9 then (some true) else (some false))))
end
def laws_FnExactPeriodPolynomial.f (k:Nat) (a0:Int) (a1:Int):Option (Bool):=(spec_PeriodPolynomial.f k a0 a1).bind fun bt313=>((impl_PeriodPolynomial.f k a0 a1).bind fun bt317=>((laws_eqInt64S.f k bt317.1 bt313.1).bind fun t321=>(if t321=true then (laws_FnExactPeriodPolynomial.j0 k a0 a1 bt313.1 bt313.2 bt317.1 (bt317.2 !=bt313.2)) else (laws_FnExactPeriodPolynomial.j0 k a0 a1 bt313.1 bt313.2 bt317.1 true))))
theorem laws_FnExactPeriodPolynomial.mono_l:∀k,(∀y0 y1 y2 y3 y4 y5,LeO (laws_FnExactPeriodPolynomial.j0 k y0 y1 y2 y3 y4 y5) (laws_FnExactPeriodPolynomial.j0 (k+1) y0 y1 y2 y3 y4 y5))∧(∀y0 y1 y2,LeO (laws_FnExactPeriodPolynomial.j1 k y0 y1 y2) (laws_FnExactPeriodPolynomial.j1 (k+1) y0 y1 y2))
  |0=>⟨fun _ _ _ _ _ _ r h=>by simp [laws_FnExactPeriodPolynomial.j0] at h,fun _ _ _ r h=>by simp [laws_FnExactPeriodPolynomial.j1] at h⟩
  |k+1=>by
    obtain⟨ih0,ih1⟩:=laws_FnExactPeriodPolynomial.mono_l k;refine⟨?_,?_⟩
    · intro y0 y1 y2 y3 y4 y5
      unfold laws_FnExactPeriodPolynomial.j0;repeat' first
      |(with_reducible exact ih0 _ _ _ _ _ _)
      |(with_reducible exact ih1 _ _ _)
      |(with_reducible exact impl_PeriodPolynomial.mono _ _ _)
      |(with_reducible exact laws_eqInt64S.mono _ _ _)
      |(with_reducible exact laws_heldInt64S.mono _ _ _)
      |(with_reducible exact laws_markInt64S.mono _ _ _)
      |(with_reducible exact spec_PeriodPolynomial.mono _ _ _)
      |(with_reducible exact LeO.refl _)
      |(with_reducible exact LeO.none _)
      |(with_reducible refine LeO.ite ?_ ?_)
      |(with_reducible refine LeO.bind ?_ (fun _=>?_))
      |exact ih0 _ _ _ _ _ _
      |exact ih1 _ _ _
      |exact impl_PeriodPolynomial.mono _ _ _
      |exact laws_eqInt64S.mono _ _ _
      |exact laws_heldInt64S.mono _ _ _
      |exact laws_markInt64S.mono _ _ _
      |exact spec_PeriodPolynomial.mono _ _ _
      |exact LeO.none _
      |refine LeO.ite ?_ ?_
      |refine LeO.bind ?_ (fun _=>?_)
    · intro y0 y1 y2
      unfold laws_FnExactPeriodPolynomial.j1;repeat' first
      |(with_reducible exact ih0 _ _ _ _ _ _)
      |(with_reducible exact ih1 _ _ _)
      |(with_reducible exact impl_PeriodPolynomial.mono _ _ _)
      |(with_reducible exact laws_eqInt64S.mono _ _ _)
      |(with_reducible exact laws_heldInt64S.mono _ _ _)
      |(with_reducible exact laws_markInt64S.mono _ _ _)
      |(with_reducible exact spec_PeriodPolynomial.mono _ _ _)
      |(with_reducible exact LeO.refl _)
      |(with_reducible exact LeO.none _)
      |(with_reducible refine LeO.ite ?_ ?_)
      |(with_reducible refine LeO.bind ?_ (fun _=>?_))
      |exact ih0 _ _ _ _ _ _
      |exact ih1 _ _ _
      |exact impl_PeriodPolynomial.mono _ _ _
      |exact laws_eqInt64S.mono _ _ _
      |exact laws_heldInt64S.mono _ _ _
      |exact laws_markInt64S.mono _ _ _
      |exact spec_PeriodPolynomial.mono _ _ _
      |exact LeO.none _
      |refine LeO.ite ?_ ?_
      |refine LeO.bind ?_ (fun _=>?_)
theorem laws_FnExactPeriodPolynomial.mono:∀a0 a1 k,LeO (laws_FnExactPeriodPolynomial.f k a0 a1) (laws_FnExactPeriodPolynomial.f (k+1) a0 a1):=by
  intro a0 a1 k;obtain⟨ih0,ih1⟩:=laws_FnExactPeriodPolynomial.mono_l k;unfold laws_FnExactPeriodPolynomial.f;repeat' first
      |(with_reducible exact ih0 _ _ _ _ _ _)
      |(with_reducible exact ih1 _ _ _)
      |(with_reducible exact impl_PeriodPolynomial.mono _ _ _)
      |(with_reducible exact laws_eqInt64S.mono _ _ _)
      |(with_reducible exact laws_heldInt64S.mono _ _ _)
      |(with_reducible exact laws_markInt64S.mono _ _ _)
      |(with_reducible exact spec_PeriodPolynomial.mono _ _ _)
      |(with_reducible exact LeO.refl _)
      |(with_reducible exact LeO.none _)
      |(with_reducible refine LeO.ite ?_ ?_)
      |(with_reducible refine LeO.bind ?_ (fun _=>?_))
      |exact ih0 _ _ _ _ _ _
      |exact ih1 _ _ _
      |exact impl_PeriodPolynomial.mono _ _ _
      |exact laws_eqInt64S.mono _ _ _
      |exact laws_heldInt64S.mono _ _ _
      |exact laws_markInt64S.mono _ _ _
      |exact spec_PeriodPolynomial.mono _ _ _
      |exact LeO.none _
      |refine LeO.ite ?_ ?_
      |refine LeO.bind ?_ (fun _=>?_)
-- TRUE ALONE
theorem laws_FnExactPeriodPolynomial.j0_no (k:Nat) (y0:Int) (y1:Int) (y2:List Int) (y3:Int) (y4:List Int) (h:laws_FnExactPeriodPolynomial.j0 k y0 y1 y2 y3 y4 true=some true):False:=by
  cases k with
  |zero=>first|(simp only [laws_FnExactPeriodPolynomial.j0] at h;done)|(simp only [laws_FnExactPeriodPolynomial.j0] at h;cases h)
  |succ k=>rw [laws_FnExactPeriodPolynomial.j0,if_pos rfl] at h;cases h
theorem laws_FnExactPeriodPolynomial.j1_no (k:Nat) (y0:List Int) (y1:Int) (h:laws_FnExactPeriodPolynomial.j1 k y0 y1 true=some true):False:=by
  cases k with
  |zero=>first|(simp only [laws_FnExactPeriodPolynomial.j1] at h;done)|(simp only [laws_FnExactPeriodPolynomial.j1] at h;cases h)
  |succ k=>rw [laws_FnExactPeriodPolynomial.j1,if_pos rfl] at h;cases h
set_option maxHeartbeats 8000000 in
set_option maxRecDepth 100000 in
theorem laws_FnExactPeriodPolynomial.calls (k:Nat) (a0:Int) (a1:Int) (w:World) (h:laws_FnExactPeriodPolynomial.f k a0 a1=some true):
    Calls Try.prog 6 #[.int .i64 a0,.int .i64 a1] w fun e w'=>e=.returned (.bool true)∧Below w.heap.size w w':=by
  have HB:=qAm (Below.refl w.heap.size w);have H:((spec_PeriodPolynomial.f k a0 a1).bind fun bt313=>((impl_PeriodPolynomial.f k a0 a1).bind fun bt317=>((laws_eqInt64S.f k bt317.1 bt313.1).bind fun t321=>(if t321=true then (laws_FnExactPeriodPolynomial.j0 k a0 a1 bt313.1 bt313.2 bt317.1 (bt317.2 !=bt313.2)) else (laws_FnExactPeriodPolynomial.j0 k a0 a1 bt313.1 bt313.2 bt317.1 true)))))=some true:=h;clear h;replace H:=qOb H;obtain⟨⟨t313,t314⟩,A30,H⟩:=H;replace H:((impl_PeriodPolynomial.f k a0 a1).bind fun bt317=>((laws_eqInt64S.f k bt317.1 t313).bind fun t321=>(if t321=true then (laws_FnExactPeriodPolynomial.j0 k a0 a1 t313 t314 bt317.1 (bt317.2 !=t314)) else (laws_FnExactPeriodPolynomial.j0 k a0 a1 t313 t314 bt317.1 true))))=some true:=H;have A3:=qAm A30;clear A30;replace H:=qOb H;obtain⟨⟨t317,t318⟩,A40,H⟩:=H;replace H:((laws_eqInt64S.f k t317 t313).bind fun t321=>(if t321=true then (laws_FnExactPeriodPolynomial.j0 k a0 a1 t313 t314 t317 (t318 !=t314)) else (laws_FnExactPeriodPolynomial.j0 k a0 a1 t313 t314 t317 true)))=some true:=H;have A4:=qAm A40;clear A40;have HC5:=qAm H;clear H;go_enter Try.func6,Try.ntmps6;go_upto_region 3 with (first|((with_reducible refine gate_callee (f:=27) rfl ?_);refine goesL_ (some 16) rfl rfl Try.func27 (by kernel_rfl) rfl #[.int .i64 a0,.int .i64 a1] rfl qB15 ?_;(with_reducible refine(spec_PeriodPolynomial.calls k a0 a1 t313 t314 _ A3.1).mono ?_);rintro e w6 ⟨v315,rfl,ho0,hb⟩;refine⟨_,rfl,?_⟩;have n0_:=qAm (Kd.R_lower ho0 (below_size qB19));have n1_:=qAm (below_step qB19 hb);clear HB;have HO316:=n0_;have HB:=n1_;clear n0_ n1_;(try clear hb);(try clear hb2);(try clear hk);(try clear hi);(try clear ho0))|((with_reducible refine gate_callee (f:=28) rfl ?_);refine goesL_ (some 22) rfl rfl Try.func28 (by kernel_rfl) rfl #[.int .i64 a0,.int .i64 a1] rfl qB15 ?_;(with_reducible refine(impl_PeriodPolynomial.calls k a0 a1 t317 t318 _ A4.1).mono ?_);rintro e w7 ⟨v319,rfl,ho0,hb⟩;refine⟨_,rfl,?_⟩;have n0_:=qAm (Kd.R_elder' qB40 (Kd.R_base ho0) hb);have n1_:=qAm (Kd.R_lower (Kd.R_new' ho0 (Kd.R_lt qB40)) (below_size qB19));have n2_:=qAm (below_step qB19 hb);clear HO316;clear HB;have HO316:=n0_;have HO320:=n1_;have HB:=n2_;clear n0_ n1_ n2_;(try clear hb);(try clear hb2);(try clear hk);(try clear hi);(try clear ho0)))
  (try simp only [Act.put,qSa,qSb,qSc])
  go_cut [33] (fun v33 wc=>∃(kq:Nat) (x33_4:Bool),v33=.bool x33_4∧Aside0 (laws_FnExactPeriodPolynomial.j0 kq a0 a1 t313 t314 t317 x33_4=some true)∧Aside0 (kq≤k)∧Aside0 (Kd.R (Kd.int .i64) 2 wc w.heap.size (fun k_=>some k_≠(v319:Value).ownBlock) v315 t313)∧Aside0 (Kd.R (Kd.int .i64) 2 wc w.heap.size (fun k_=>some k_≠(v315:Value).ownBlock) v319 t317)∧Aside0 (Below w.heap.size w wc))
  case first=>
    have H:=HC5.1;clear HC5;replace H:=qOb H;obtain⟨t321,A80,H⟩:=H;replace H:(if t321=true then (laws_FnExactPeriodPolynomial.j0 k a0 a1 t313 t314 t317 (t318 !=t314)) else (laws_FnExactPeriodPolynomial.j0 k a0 a1 t313 t314 t317 true))=some true:=H;have A8:=qAm A80;clear A80
    by_cases c9:t321=true
    · subst c9
      have H1:(laws_FnExactPeriodPolynomial.j0 k a0 a1 t313 t314 t317 (t318 !=t314))=some true:=by rw [if_pos rfl] at H;exact H
      clear H;have H:=H1;clear H1;have H':=qAm H;clear H;obtain⟨Ao10,co10,eo10⟩:=Kd.R_slice HO320.1;subst eo10;obtain⟨Ao11,co11,eo11⟩:=Kd.R_slice HO316.1;subst eo11;go_wp2_with (first|((with_reducible refine gate_callee (f:=13) rfl ?_);refine goesL_ (some 27) rfl rfl Try.func13 (by kernel_rfl) rfl #[.slice Ao10 t317.length co10,.slice Ao11 t313.length co11] rfl qB15 ?_;(with_reducible refine(laws_eqInt64S.calls k _ _ t317 _ _ t313 true _ ?side1 ?side2 ?side3 ?side4 A8.1).mono ?_);(case side1=>repeat(first|exact(Kd.R_reads' HO320.1).2.2|(with_reducible refine Kd.C_alloc ?_ _)|(with_reducible refine Kd.C_drewN ?_ _)|(with_reducible refine Kd.C_drew ?_)));(case side2=>exact(Kd.R_reads' HO320.1).2.1);(case side3=>repeat(first|exact(Kd.R_reads' HO316.1).2.2|(with_reducible refine Kd.C_alloc ?_ _)|(with_reducible refine Kd.C_drewN ?_ _)|(with_reducible refine Kd.C_drew ?_)));(case side4=>exact(Kd.R_reads' HO316.1).2.1);rintro e w' ⟨rfl,⟨nd,rfl⟩⟩;refine⟨_,rfl,?_⟩));go_meet
      case rel=>exact⟨_,((t318 !=t314)),qB47,H',⟨by first|omega|exact Nat.le_refl _⟩,⟨by (with_reducible repeat(first|apply Kd.R_alloc|apply Kd.R_drewN|apply Kd.R_drew));exact Kd.R_mono HO316.1 (fun _ hk=>hk.2)⟩,⟨by (with_reducible repeat(first|apply Kd.R_alloc|apply Kd.R_drewN|apply Kd.R_drew));exact Kd.R_mono HO320.1 (fun _ hk=>hk.2)⟩,⟨by repeat(first|(with_reducible first|exact HB.1|apply below_alloc|apply pw_below_drewN|apply below_drew1)|exact HB.1)⟩⟩
    · replace c9:=Bool.eq_false_iff.mpr c9
      subst c9;have H1:(laws_FnExactPeriodPolynomial.j0 k a0 a1 t313 t314 t317 true)=some true:=by rw [if_neg (show ¬(false=true) by decide)] at H;exact H
      exact(laws_FnExactPeriodPolynomial.j0_no _ _ _ _ _ _ H1).elim
  case rest=>
    clear HC5;try clear c1
    try clear c2
    try clear p2
    try clear c6
    try clear c9
    try clear c13
    obtain⟨kq,x33_4,rfl,HA,HJ4,HO_5,HO_7,HB⟩:=hcut;cases kq with
    |zero=>exact absurd HA.1 (by simp [laws_FnExactPeriodPolynomial.j0])
    |succ kj4=>
      have H:=HA.1;clear HA;simp only [laws_FnExactPeriodPolynomial.j0] at H
      by_cases c14:x33_4=true
      · subst c14
        have H1:(some false)=some true:=by rw [if_pos rfl] at H;exact H
        cases H1
      · replace c14:=Bool.eq_false_iff.mpr c14
        subst c14;have H1:((laws_markInt64S.f kj4 t317 1).bind fun bt322=>((laws_heldInt64S.f kj4 bt322.2 1).bind fun t324=>(if t324<0 then (some false) else (if t324=bt322.1 then ((impl_PeriodPolynomial.f kj4 a0 a1).bind fun bt325=>((laws_eqInt64S.f kj4 bt325.1 t313).bind fun t329=>(if t329=true then (laws_FnExactPeriodPolynomial.j1 kj4 bt322.2 bt322.1 (bt325.2 !=t314)) else (laws_FnExactPeriodPolynomial.j1 kj4 bt322.2 bt322.1 true)))) else (some false)))))=some true:=by rw [if_neg (show ¬(false=true) by decide)] at H;exact H
        clear H;have H:=H1;clear H1;replace H:=qOb H;obtain⟨⟨t322,t323⟩,A150,H⟩:=H;replace H:((laws_heldInt64S.f kj4 t323 1).bind fun t324=>(if t324<0 then (some false) else (if t324=t322 then ((impl_PeriodPolynomial.f kj4 a0 a1).bind fun bt325=>((laws_eqInt64S.f kj4 bt325.1 t313).bind fun t329=>(if t329=true then (laws_FnExactPeriodPolynomial.j1 kj4 t323 t322 (bt325.2 !=t314)) else (laws_FnExactPeriodPolynomial.j1 kj4 t323 t322 true)))) else (some false))))=some true:=H;have A15:=qAm A150;clear A150;replace H:=qOb H;obtain⟨t324,A160,H⟩:=H;replace H:(if t324<0 then (some false) else (if t324=t322 then ((impl_PeriodPolynomial.f kj4 a0 a1).bind fun bt325=>((laws_eqInt64S.f kj4 bt325.1 t313).bind fun t329=>(if t329=true then (laws_FnExactPeriodPolynomial.j1 kj4 t323 t322 (bt325.2 !=t314)) else (laws_FnExactPeriodPolynomial.j1 kj4 t323 t322 true)))) else (some false)))=some true:=H;have A16:=qAm A160;clear A160
        by_cases c17:t324<0
        · rw [if_pos c17] at H
          cases H
        · rw [if_neg c17] at H
          have c17b0:decide (t324<0)=false:=decide_eq_false c17;clear c17
          by_cases c20:t324=t322
          · rw [if_pos c20] at H
            have c20b0:(t324==t322)=true:=beq_iff_eq.mpr c20;have c20b1:(t324 !=t322)=false:=bne_eq_false_iff_eq.mpr c20;clear c20;replace H:=qOb H;obtain⟨⟨t325,t326⟩,A210,H⟩:=H;replace H:((laws_eqInt64S.f kj4 t325 t313).bind fun t329=>(if t329=true then (laws_FnExactPeriodPolynomial.j1 kj4 t323 t322 (t326 !=t314)) else (laws_FnExactPeriodPolynomial.j1 kj4 t323 t322 true)))=some true:=H;have A21:=qAm A210;clear A210;have HC22:=qAm H;clear H;obtain⟨Ao23,co23,eo23⟩:=Kd.R_slice HO_7.1;subst eo23;go_upto_region 14 with (first|((with_reducible refine gate_callee (f:=16) rfl ?_);refine goesL_ (some 36) rfl rfl Try.func16 (by kernel_rfl) rfl #[.slice Ao23 t317.length co23,.int .i64 1] rfl qB15 ?_;(with_reducible refine(laws_markInt64S.calls kj4 (fun k_=>some k_=(.slice Ao23 t317.length co23:Value).ownBlock) (.slice Ao23 t317.length co23) t317 1 t322 t323 w _ ?side1 ?side2 A15.1).mono ?_);(case side1=>repeat(first|(with_reducible first|exact HB.1|apply below_alloc|apply pw_below_drewN|apply below_drew1)|exact HB.1));(case side2=>exact Kd.R_tight rfl HO_7.1);rintro e w24 ⟨rfl,hy0,hb,hkp⟩;refine⟨_,rfl,?_⟩;have n0_:=qAm (Kd.R_mono (ok':=fun k_=>some k_≠(.slice Ao23 t317.length co23:Value).ownBlock) (Kd.R_keptB (HO_5.1) hkp (fun k_ hk_ hs_=>(hk_) hs_)) (fun k_ hk_=>hk_.1));have n1_:=qAm (Kd.R_reok rfl hy0 (fun k_ e_=>HO_7.1.1 k_ e_));have n2_:=qAm (hb);clear HO_5;clear HO_7;clear HB;have HO_5:=n0_;have HO_7:=n1_;have HB:=n2_;clear n0_ n1_ n2_;(try clear hb);(try clear hkp);(try clear hy0))|((with_reducible refine gate_callee (f:=17) rfl ?_);refine goesL_ (some 39) rfl rfl Try.func17 (by kernel_rfl) rfl #[.slice Ao23 t323.length co23,.int .i64 1] rfl (by (try simp only [List.map_toArray,List.map_cons,List.map_nil]);first|done|(rw [show t323.length=t317.length from (Kd.R_reads' HO_7.1).1.symm] <;> rfl)|rfl|(simp only [List.length_drop,List.length_take];rfl)) ?_;(with_reducible refine(laws_heldInt64S.calls kj4 _ _ t323 1 t324 _ ?side1 ?side2 A16.1).mono ?_);(case side1=>repeat(first|exact(Kd.R_reads' HO_7.1).2.2|(with_reducible refine Kd.C_alloc ?_ _)|(with_reducible refine Kd.C_drewN ?_ _)|(with_reducible refine Kd.C_drew ?_)));(case side2=>rw [show t323.length=t317.length from (Kd.R_reads' HO_7.1).1.symm];exact(Kd.R_reads' HO_7.1).2.1);rintro e w' ⟨rfl,⟨nd,rfl⟩⟩;refine⟨_,rfl,?_⟩)|((with_reducible refine gate_callee (f:=28) rfl ?_);refine goesL_ (some 48) rfl rfl Try.func28 (by kernel_rfl) rfl #[.int .i64 a0,.int .i64 a1] rfl qB15 ?_;(with_reducible refine(impl_PeriodPolynomial.calls kj4 a0 a1 t325 t326 _ A21.1).mono ?_);rintro e w25 ⟨v327,rfl,ho0,hb⟩;refine⟨_,rfl,?_⟩;have n0_:=qAm (Kd.R_elder' qB41 (Kd.R_base ho0) hb);have n1_:=qAm (Kd.R_elder' qB44 (Kd.R_base ho0) hb);have n2_:=qAm (Kd.R_lower (Kd.R_new' (Kd.R_new' ho0 (Kd.R_lt qB41)) (Kd.R_lt qB44)) (below_size qB19));have n3_:=qAm (below_step qB19 hb);clear HO_5;clear HO_7;clear HB;have HO_5:=n0_;have HO_7:=n1_;have HO328:=n2_;have HB:=n3_;clear n0_ n1_ n2_ n3_;(try clear hb);(try clear hb2);(try clear hk);(try clear hi);(try clear ho0)))
            (try simp only [Act.put,qSa,qSb,qSc])
            go_cut [59] (fun v59 wc=>∃(kq:Nat) (x59_21:Bool),v59=.bool x59_21∧Aside0 (laws_FnExactPeriodPolynomial.j1 kq t323 t322 x59_21=some true)∧Aside0 (kq≤kj4)∧Aside0 (Kd.R (Kd.int .i64) 2 wc w.heap.size (fun _=>True) (.slice Ao23 t317.length co23) t323)∧Aside0 (Below w.heap.size w wc))
            case first=>
              have H:=HC22.1;clear HC22;replace H:=qOb H;obtain⟨t329,A260,H⟩:=H;replace H:(if t329=true then (laws_FnExactPeriodPolynomial.j1 kj4 t323 t322 (t326 !=t314)) else (laws_FnExactPeriodPolynomial.j1 kj4 t323 t322 true))=some true:=H;have A26:=qAm A260;clear A260
              by_cases c27:t329=true
              · subst c27
                have H1:(laws_FnExactPeriodPolynomial.j1 kj4 t323 t322 (t326 !=t314))=some true:=by rw [if_pos rfl] at H;exact H
                clear H;have H:=H1;clear H1;have H':=qAm H;clear H;obtain⟨Ao28,co28,eo28⟩:=Kd.R_slice HO328.1;subst eo28;obtain⟨Ao29,co29,eo29⟩:=Kd.R_slice HO_5.1;subst eo29;go_wp2_with (first|((with_reducible refine gate_callee (f:=13) rfl ?_);refine goesL_ (some 53) rfl rfl Try.func13 (by kernel_rfl) rfl #[.slice Ao28 t325.length co28,.slice Ao29 t313.length co29] rfl qB15 ?_;(with_reducible refine(laws_eqInt64S.calls kj4 _ _ t325 _ _ t313 true _ ?side1 ?side2 ?side3 ?side4 A26.1).mono ?_);(case side1=>repeat(first|exact(Kd.R_reads' HO328.1).2.2|(with_reducible refine Kd.C_alloc ?_ _)|(with_reducible refine Kd.C_drewN ?_ _)|(with_reducible refine Kd.C_drew ?_)));(case side2=>exact(Kd.R_reads' HO328.1).2.1);(case side3=>repeat(first|exact(Kd.R_reads' HO_5.1).2.2|(with_reducible refine Kd.C_alloc ?_ _)|(with_reducible refine Kd.C_drewN ?_ _)|(with_reducible refine Kd.C_drew ?_)));(case side4=>exact(Kd.R_reads' HO_5.1).2.1);rintro e w' ⟨rfl,⟨nd,rfl⟩⟩;refine⟨_,rfl,?_⟩));go_meet
                case rel=>exact⟨_,((t326 !=t314)),qB47,H',⟨by have:=HJ4.1;first|omega|exact Nat.le_refl _⟩,⟨by (with_reducible repeat(first|apply Kd.R_alloc|apply Kd.R_drewN|apply Kd.R_drew));exact Kd.R_mono HO_7.1 (fun _ hk=>trivial)⟩,⟨by repeat(first|(with_reducible first|exact HB.1|apply below_alloc|apply pw_below_drewN|apply below_drew1)|exact HB.1)⟩⟩
              · replace c27:=Bool.eq_false_iff.mpr c27
                subst c27;have H1:(laws_FnExactPeriodPolynomial.j1 kj4 t323 t322 true)=some true:=by rw [if_neg (show ¬(false=true) by decide)] at H;exact H
                exact(laws_FnExactPeriodPolynomial.j1_no _ _ _ H1).elim
            case rest=>
              clear HC22;try clear c1
              try clear c2
              try clear p2
              try clear c6
              try clear c9
              try clear c13
              try clear c14
              try clear c16
              try clear c17
              try clear c17b0
              try clear c20
              try clear c20b0
              try clear c20b1
              try clear c27
              try clear c28
              try clear p2
              obtain⟨kq,x59_21,rfl,HA,HJ21,HO_7,HB⟩:=hcut;have hl7_21:=(Kd.R_reads' HO_7.1).1;rw [hl7_21] at HO_7
              (try simp only [hl7_21])
              cases kq with
              |zero=>exact absurd HA.1 (by simp [laws_FnExactPeriodPolynomial.j1])
              |succ kj21=>
                have H:=HA.1;clear HA;simp only [laws_FnExactPeriodPolynomial.j1] at H
                by_cases c32:x59_21=true
                · subst c32
                  have H1:(some false)=some true:=by rw [if_pos rfl] at H;exact H
                  cases H1
                · replace c32:=Bool.eq_false_iff.mpr c32
                  subst c32;have H1:((laws_heldInt64S.f kj21 t323 1).bind fun t330=>(if t330<0 then (some false) else (if t330=t322 then (some true) else (some false))))=some true:=by rw [if_neg (show ¬(false=true) by decide)] at H;exact H
                  clear H;have H:=H1;clear H1;replace H:=qOb H;obtain⟨t330,A330,H⟩:=H;replace H:(if t330<0 then (some false) else (if t330=t322 then (some true) else (some false)))=some true:=H;have A33:=qAm A330;clear A330
                  by_cases c34:t330<0
                  · rw [if_pos c34] at H
                    cases H
                  · rw [if_neg c34] at H
                    have c34b0:decide (t330<0)=false:=decide_eq_false c34;clear c34
                    by_cases c35:t330=t322
                    · rw [if_pos c35] at H
                      have c35b0:(t330==t322)=true:=beq_iff_eq.mpr c35;have c35b1:(t330 !=t322)=false:=bne_eq_false_iff_eq.mpr c35;clear c35 H;go_wp2_with (first|((with_reducible refine gate_callee (f:=17) rfl ?_);refine goesL_ (some 62) rfl rfl Try.func17 (by kernel_rfl) rfl #[.slice Ao23 t323.length co23,.int .i64 1] rfl qB15 ?_;(with_reducible refine(laws_heldInt64S.calls kj21 _ _ t323 1 t330 _ ?side1 ?side2 A33.1).mono ?_);(case side1=>repeat(first|exact(Kd.R_reads' HO_7.1).2.2|(with_reducible refine Kd.C_alloc ?_ _)|(with_reducible refine Kd.C_drewN ?_ _)|(with_reducible refine Kd.C_drew ?_)));(case side2=>exact(Kd.R_reads' HO_7.1).2.1);rintro e w' ⟨rfl,⟨nd,rfl⟩⟩;refine⟨_,rfl,?_⟩));go_ret;exact⟨by first|rfl|(simp [errW_none,errW_some] <;> rfl)|(simp [*,errW_none,errW_some] <;> rfl),by repeat(first|(with_reducible first|exact HB.1|apply below_alloc|apply pw_below_drewN|apply below_drew1)|exact HB.1)⟩
                    · rw [if_neg c35] at H
                      cases H
          · rw [if_neg c20] at H
            cases H

/-- THE ONE PURE STATEMENT of laws_FnExactPeriodPolynomial: yours. -/
def laws_FnExactPeriodPolynomial.Pure:Prop:=∀(a0:Int) (a1:Int),(Lit.int .i64 a0).wf=true→(Lit.int .i64 a1).wf=true→∃k,laws_FnExactPeriodPolynomial.f k a0 a1=some true
theorem laws_FnExactPeriodPolynomial.walk (P:laws_FnExactPeriodPolynomial.Pure) (a0:Int) (a1:Int) (w:World) (w0:(Lit.int .i64 a0).wf=true) (w1:(Lit.int .i64 a1).wf=true):
    Calls Try.prog 6 #[.int .i64 a0,.int .i64 a1] w fun e w'=>e=.returned (.bool true)∧Below w.heap.size w w':=by
  obtain⟨k,h⟩:=P a0 a1 w0 w1;refine(laws_FnExactPeriodPolynomial.calls k a0 a1 w h).mono ?_;rintro e w' ⟨rfl,hd⟩;exact⟨rfl,hd⟩

end Go.Proofs.Ytefhabkikaadiaa.PFnExactPeriodPolynomial
