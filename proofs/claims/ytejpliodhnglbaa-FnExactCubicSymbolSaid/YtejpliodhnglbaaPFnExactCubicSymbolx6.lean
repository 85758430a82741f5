/- The functions that the law reaches, as plain functions, each with the proof that the program comes to it; no condition. Written by a program of this session (wip/mp.py) over the printing of the kit; what is marked HAND is told by hand. -/
import Derived.Test.YtejpliodhnglbaaPFnExactCubicSymbolx0
import Derived.Test.YtejpliodhnglbaaPFnExactCubicSymbolx2
namespace Go.Proofs.Ytejpliodhnglbaa.PFnExactCubicSymbol
open Go.RowKit Go.Proofs.YtejpliodhnglbaaW.PrintWords Go.Proofs.YtejpliodhnglbaaW.PrintLast Go.Proofs.YtejpliodhnglbaaW.PrintMore
attribute [local go_sem] max2_int min2_int max_two min_two max_three min_three max_four min_four   -- for this text's walks alone
set_option linter.unusedVariables false
set_option linter.unusedSimpArgs false

/-! ### spec_l01Own: function 77 -/
def spec_l01Own.f (l0:List Int):Option (List Int):=(some (([]:List Int):List Int)).bind fun y197=>(if y197.length+l0.length<17592186044416 then (some (y197 ++ l0)) else (none))
set_option maxHeartbeats 8000000 in
set_option maxRecDepth 100000 in
theorem spec_l01Own.calls (A0:Option Addr) (c0:Nat) (l0:List Int) (r:List Int) (w:World) (hr0:Kd.C (Kd.int .i64) w A0 l0.length l0) (hc0:l0.length≤c0) (h:spec_l01Own.f l0=some r):
  Calls Try.prog 77 #[.slice A0 l0.length c0] w fun e w'=>∃v0_:Value,e=.returned (v0_)∧Kd.R (Kd.int .i64) 2 w' w.heap.size (fun _=>True) v0_ r∧Below w.heap.size w w':=by
 have HR0:=qAm hr0;have HC0:=qAm hc0;clear hr0 hc0;have HB:=qAm (Below.refl w.heap.size w);have H:((some (([]:List Int):List Int)).bind fun y197=>(if y197.length+l0.length<17592186044416 then (some (y197 ++ l0)) else (none)))=some r:=h;clear h;obtain⟨y197,hy197⟩:∃y_:List Int,y_=(([]:List Int)):=⟨_,rfl⟩
 replace H:(if y197.length+l0.length<17592186044416 then (some (y197 ++ l0)) else (none))=some r:=by first|(rw [hy197];with_reducible exact H)|(have H2_:=(Option.bind_some _ _).symm.trans H;rw [hy197];with_reducible exact H2_)|(have H2_:=(Option.bind_some _ _).symm.trans H;with_reducible exact H2_)|with_reducible exact H|(rw [hy197];exact H)|exact H
 have Ny197:=qAm hy197;clear hy197
 by_cases c2:y197.length+l0.length<17592186044416
 ·rw [if_pos c2] at H;have LMc2:=qAm c2;clear c2;obtain⟨y200,hy200⟩:∃y_:List Int,y_=(y197 ++ l0):=⟨_,rfl⟩
  replace H:(some y200)=some r:=by first|(rw [hy200];with_reducible exact H)|(have H2_:=(Option.bind_some _ _).symm.trans H;rw [hy200];with_reducible exact H2_)|(have H2_:=(Option.bind_some _ _).symm.trans H;with_reducible exact H2_)|with_reducible exact H|(rw [hy200];exact H)|exact H
  have Ny200:=qAm hy200;clear hy200;obtain rfl:=Option.some.inj H;go_enter Try.func77,Try.ntmps77;go_wp2_with (first|((with_reducible refine gate_dst (N:=3) rfl ?_);refine Kd.R_lit (Kd.int .i64) _ 2 ?hg (N:=3) ?hd (xs:=([]:List Int)) (inner:=[]) (ok:=fun _=>True) (okp:=fun _=>True) ?hr ?hp (fun _ hk=>hk) trivial (Below.refl _ _) (Nat.le_refl _) (by simp) ?_;(case hd=>rfl);(case hg=>rfl);(case hr=>first|(go_simp;done)|(go_simp;rfl));(case hp=>exact(Reps.none _ _));intro v198 w3 ho4 hb hg_ hnew_;clear hg_ hnew_;(first|rw [← Ny197.1] at ho4|(simp only [Int.reduceToNat] at ho4;rw [← Ny197.1] at ho4));have n0_:=qAm (Kd.R_lower ho4 (below_size qB111));have n1_:=qAm (below_step qB111 hb);clear HB;have HO199:=n0_;have HB:=n1_;clear n0_ n1_;clear hb ho4)|((with_reducible refine gate_builtin (b:=.append) (xs:=#[.tmp 3,.tmp 4]) rfl ?_);at_builtin;refine Kd.R_append_rows (Kd.int .i64) (w0:=w) w.heap.size rfl (.tmp 3) (.tmp 4) 22 2 (.int .i64 0) 8 rfl Try.underlying22 info2 rfl (by decide) (by omega) v198 y197 l0 _ _ _ (fun _=>True) (fun _=>False) rfl rfl ?aO ?aR (fun _ _ h=>h) (fun _ h=>h.elim) ?aF ?aB ?aS ?aL ?_;(case aR=>repeat(first|exact(Kd.C_below HR0.1 HB.1)|(with_reducible refine Kd.C_alloc ?_ _)|(with_reducible refine Kd.C_drewN ?_ _)|(with_reducible refine Kd.C_drew ?_)));(case aB=>exact qB111);(case aF=>exact(fun _ _=>trivial));(case aO=>exact(by (with_reducible repeat(first|apply Kd.R_alloc|apply Kd.R_drewN|apply Kd.R_drew));exact HO199.1));(case aS=>exact(below_size qB111));(case aL=>have:=LMc2.1;omega);intro v201 w5 ho hb hg hat;rw [← Ny200.1] at ho;have n0_:=qAm (hb);have n1_:=qAm (ho);clear HB;clear HO199;have HB:=n0_;have HO202:=n1_;clear n0_ n1_;clear ho hb hg hat));go_ret;exact⟨_,by first|rfl|(simp [errW_none,errW_some] <;> rfl)|(simp [*,errW_none,errW_some] <;> rfl),by (with_reducible repeat(first|apply Kd.R_alloc|apply Kd.R_drewN|apply Kd.R_drew));exact HO202.1,by repeat(first|(with_reducible first|exact HB.1|apply below_alloc|apply pw_below_drewN|apply below_drew1)|exact HB.1)⟩
 ·rw [if_neg c2] at H;exact absurd H (by simp)

/-! ### spec_l01Quotient: function 81 -/
mutual
def spec_l01Quotient.l0:Nat→List Int→List Int→List Int→Int→Option (List Int)
 |0,_,_,_,_=>none
 |k+1,x1,x5,x7,x8=>if x8≥0 then (if 0≤(wrap64 ((wrap64 (x8+(x1.length:Int))) - 1)) then (if (wrap64 ((wrap64 (x8+(x1.length:Int))) - 1))<(x5.length:Int) then (if 0≤x8 then (if x8<(x7.length:Int) then (spec_l01Quotient.l1 k x1 x5 (x7.set (x8:Int).toNat (rd x5 (wrap64 ((wrap64 (x8+(x1.length:Int))) - 1)))) x8 0) else (none)) else (none)) else (none)) else (none)) else (some x7)
def spec_l01Quotient.l1:Nat→List Int→List Int→List Int→Int→Int→Option (List Int)
 |0,_,_,_,_,_=>none
 |k+1,x1,x5,x7,x8,x9=>if x9<(x1.length:Int) then (if 0≤(wrap64 (x8+x9)) then (if (wrap64 (x8+x9))<(x5.length:Int) then (if 0≤x8 then (if x8<(x7.length:Int) then (if 0≤x9 then (spec_l01Quotient.l1 k x1 (x5.set ((wrap64 (x8+x9)):Int).toNat (wrap64 ((rd x5 (wrap64 (x8+x9))) - (wrap64 ((rd x7 x8)*(rd x1 x9)))))) x7 x8 (wrap64 (x9+1))) else (none)) else (none)) else (none)) else (none)) else (none)) else (spec_l01Quotient.l0 k x1 x5 x7 (wrap64 (x8 - 1)))
end
def spec_l01Quotient.f (k:Nat) (l0:List Int) (l1:List Int):Option (List Int):=(spec_l01Own.f l0).bind fun t203=>(if 0≤(wrap64 ((wrap64 ((l0.length:Int) - (l1.length:Int)))+1)) then (if (wrap64 ((wrap64 ((l0.length:Int) - (l1.length:Int)))+1):Int).toNat≤35184372088832 then (spec_l01Quotient.l0 k l1 t203 (List.replicate (wrap64 ((wrap64 ((l0.length:Int) - (l1.length:Int)))+1):Int).toNat 0) (wrap64 ((l0.length:Int) - (l1.length:Int)))) else (none)) else (none))
theorem spec_l01Quotient.mono_l:∀k,(∀y0 y1 y2 y3,LeO (spec_l01Quotient.l0 k y0 y1 y2 y3) (spec_l01Quotient.l0 (k+1) y0 y1 y2 y3))∧(∀y0 y1 y2 y3 y4,LeO (spec_l01Quotient.l1 k y0 y1 y2 y3 y4) (spec_l01Quotient.l1 (k+1) y0 y1 y2 y3 y4))
 |0=>⟨fun _ _ _ _ r h=>by simp [spec_l01Quotient.l0] at h,fun _ _ _ _ _ r h=>by simp [spec_l01Quotient.l1] at h⟩
 |k+1=>by
  obtain⟨ih0,ih1⟩:=spec_l01Quotient.mono_l k;refine⟨?_,?_⟩
  ·intro y0 y1 y2 y3;unfold spec_l01Quotient.l0;repeat' first
   |(with_reducible exact ih0 _ _ _ _)
   |(with_reducible exact ih1 _ _ _ _ _)
   |(with_reducible exact LeO.refl _)
   |(with_reducible exact LeO.none _)
   |(with_reducible refine LeO.ite ?_ ?_)
   |(with_reducible refine LeO.bind ?_ (fun _=>?_))
   |exact ih0 _ _ _ _
   |exact ih1 _ _ _ _ _
   |exact LeO.none _
   |refine LeO.ite ?_ ?_
   |refine LeO.bind ?_ (fun _=>?_)
  ·intro y0 y1 y2 y3 y4;unfold spec_l01Quotient.l1;repeat' first
   |(with_reducible exact ih0 _ _ _ _)
   |(with_reducible exact ih1 _ _ _ _ _)
   |(with_reducible exact LeO.refl _)
   |(with_reducible exact LeO.none _)
   |(with_reducible refine LeO.ite ?_ ?_)
   |(with_reducible refine LeO.bind ?_ (fun _=>?_))
   |exact ih0 _ _ _ _
   |exact ih1 _ _ _ _ _
   |exact LeO.none _
   |refine LeO.ite ?_ ?_
   |refine LeO.bind ?_ (fun _=>?_)
theorem spec_l01Quotient.mono:∀a0 a1 k,LeO (spec_l01Quotient.f k a0 a1) (spec_l01Quotient.f (k+1) a0 a1):=by
 intro a0 a1 k;obtain⟨ih0,ih1⟩:=spec_l01Quotient.mono_l k;unfold spec_l01Quotient.f;repeat' first
   |(with_reducible exact ih0 _ _ _ _)
   |(with_reducible exact ih1 _ _ _ _ _)
   |(with_reducible exact LeO.refl _)
   |(with_reducible exact LeO.none _)
   |(with_reducible refine LeO.ite ?_ ?_)
   |(with_reducible refine LeO.bind ?_ (fun _=>?_))
   |exact ih0 _ _ _ _
   |exact ih1 _ _ _ _ _
   |exact LeO.none _
   |refine LeO.ite ?_ ?_
   |refine LeO.bind ?_ (fun _=>?_)
def spec_l01Quotient.T10:Bool×List (List Nat×List Nat):=(true,[([],[]),([],[]),([],[]),([1,2],[1,2]),([],[]),([],[]),([],[]),([5,6],[5,6]),([4,7],[4,7]),([8],[8]),([],[]),([],[]),([10,11],[10,11]),([12],[12]),([],[]),([],[]),([14,15],[14,15]),([16],[16]),([13,17],[13,17]),([9,18],[9,18]),([0,3,0,1,2,3,4,5,6,7,8,9,10,11,12,13,14,15,16,17,18,19],[0,3]),([20,19,0,1,2,3,4,5,6,7,8,9,10,11,12,13,14,15,16,17,18,19],[19,20])])
def spec_l01Quotient.B10:List Nat:=[0,0,0,6,0,0,0,96,240,496,0,0,3072,7168,0,0,49152,114688,261120,524272,1048575,2097151]
theorem spec_l01Quotient.tab10:rtab .any (opsOf Try.f81 10)=spec_l01Quotient.T10:=by kernel_rfl
theorem spec_l01Quotient.bits10:waitsOk spec_l01Quotient.T10.2 spec_l01Quotient.B10=true:=by kernel_rfl
set_option maxHeartbeats 8000000 in
set_option maxRecDepth 100000 in
theorem spec_l01Quotient.calls (k:Nat) (A0:Option Addr) (c0:Nat) (l0:List Int) (A1:Option Addr) (c1:Nat) (l1:List Int) (r:List Int) (w:World) (hr0:Kd.C (Kd.int .i64) w A0 l0.length l0) (hc0:l0.length≤c0) (hr1:Kd.C (Kd.int .i64) w A1 l1.length l1) (hc1:l1.length≤c1) (h:spec_l01Quotient.f k l0 l1=some r):
  Calls Try.prog 81 #[.slice A0 l0.length c0,.slice A1 l1.length c1] w fun e w'=>∃v0_:Value,e=.returned (v0_)∧Kd.R (Kd.int .i64) 2 w' w.heap.size (fun _=>True) v0_ r∧Below w.heap.size w w':=by
 have HR0:=qAm hr0;have HC0:=qAm hc0;clear hr0 hc0;have HR1:=qAm hr1;have HC1:=qAm hc1;clear hr1 hc1;have HB:=qAm (Below.refl w.heap.size w);have H:((spec_l01Own.f l0).bind fun t203=>(if 0≤(wrap64 ((wrap64 ((l0.length:Int) - (l1.length:Int)))+1)) then (if (wrap64 ((wrap64 ((l0.length:Int) - (l1.length:Int)))+1):Int).toNat≤35184372088832 then (spec_l01Quotient.l0 k l1 t203 (List.replicate (wrap64 ((wrap64 ((l0.length:Int) - (l1.length:Int)))+1):Int).toNat 0) (wrap64 ((l0.length:Int) - (l1.length:Int)))) else (none)) else (none)))=some r:=h;clear h;replace H:=qOb H;obtain⟨t203,A30,H⟩:=H;replace H:(if 0≤(wrap64 ((wrap64 ((l0.length:Int) - (l1.length:Int)))+1)) then (if (wrap64 ((wrap64 ((l0.length:Int) - (l1.length:Int)))+1):Int).toNat≤35184372088832 then (spec_l01Quotient.l0 k l1 t203 (List.replicate (wrap64 ((wrap64 ((l0.length:Int) - (l1.length:Int)))+1):Int).toNat 0) (wrap64 ((l0.length:Int) - (l1.length:Int)))) else (none)) else (none))=some r:=H;have A3:=qAm A30;clear A30;obtain⟨ji4,hji4⟩:∃j_:Int,(wrap64 ((wrap64 ((l0.length:Int) - (l1.length:Int)))+1))=j_:=⟨_,rfl⟩
 replace H:(if 0≤(ji4) then (if (ji4:Int).toNat≤35184372088832 then (spec_l01Quotient.l0 k l1 t203 (List.replicate (ji4:Int).toNat 0) (wrap64 ((l0.length:Int) - (l1.length:Int)))) else (none)) else (none))=some r:=by first|(rw [hji4] at H;exact H)|(simp only [hji4] at H ⊢;exact H)
 (try rw [hji4] at A3)
 have hji4w:(IntKind.i64.wrap ((wrap64 ((l0.length:Int) - (l1.length:Int)))+1))=ji4:=(i64_w _).trans hji4
 by_cases c5:0≤(ji4)
 ·rw [if_pos c5] at H;have c5b0:=eq_true c5;have c5b1:decide (0≤(ji4))=true:=decide_eq_true c5;clear c5
  by_cases c6:(ji4:Int).toNat≤35184372088832
  ·rw [if_pos c6] at H;have c6b0:=eq_true c6;have c6b1:decide ((ji4:Int).toNat≤35184372088832)=true:=decide_eq_true c6;clear c6;obtain⟨y206,hy206⟩:∃y_:List Int,y_=(List.replicate (ji4:Int).toNat 0):=⟨_,rfl⟩
   replace H:(spec_l01Quotient.l0 k l1 t203 y206 (wrap64 ((l0.length:Int) - (l1.length:Int))))=some r:=by first|(rw [hy206];with_reducible exact H)|(have H2_:=(Option.bind_some _ _).symm.trans H;rw [hy206];with_reducible exact H2_)|(have H2_:=(Option.bind_some _ _).symm.trans H;with_reducible exact H2_)|with_reducible exact H|(rw [hy206];exact H)|exact H
   have Ny206:=qAm hy206;clear hy206;have H':=qAm H;clear H;go_enter Try.func81,Try.ntmps81;go_wp2_with (first|((with_reducible refine gate_callee (f:=77) rfl ?_);refine goesL_ (some 11) rfl rfl Try.func77 (by kernel_rfl) rfl #[.slice A0 l0.length c0] rfl qB108 ?_;(with_reducible refine(spec_l01Own.calls _ _ l0 t203 _ ?side1 ?side2 A3.1).mono ?_);(case side1=>repeat(first|exact HR0.1|(with_reducible refine Kd.C_alloc ?_ _)|(with_reducible refine Kd.C_drewN ?_ _)|(with_reducible refine Kd.C_drew ?_)));(case side2=>exact HC0.1);rintro e w7 ⟨v204,rfl,ho0,hb⟩;refine⟨_,rfl,?_⟩;have n0_:=qAm (Kd.R_lower ho0 (below_size qB111));have n1_:=qAm (below_step qB111 hb);clear HB;have HO205:=n0_;have HB:=n1_;clear n0_ n1_;(try clear hb);(try clear hb2);(try clear hk);(try clear hi);(try clear ho0))|((with_reducible refine gate_dst (N:=19) rfl ?_);refine Kd.R_make (Kd.int .i64) _ 2 rfl (N:=19) rfl 22 _ _ rfl ji4 rfl rfl Try.underlying22 (.int .i64 0) 8 info2 rfl (by decide) (by omega) 0 (ok:=fun _=>True) (okp:=fun _=>True) rfl (fun _ hk=>hk) trivial (of_decide_eq_true qB215) (Nat.le_trans (Nat.mul_le_mul_right _ (of_decide_eq_true qB215:ji4.toNat≤35184372088832)) (by omega)) (Below.refl _ _) (Nat.le_refl _) ?_;intro v207 w8 ho9 hb hg_ hnew_;clear hg_ hnew_;(first|rw [← Ny206.1] at ho9|(simp only [Int.reduceToNat] at ho9;rw [← Ny206.1] at ho9));have n0_:=qAm (Kd.R_elder' qB179 (Kd.R_base ho9) hb);have n1_:=qAm (Kd.R_lower (Kd.R_new' ho9 (Kd.R_lt qB179)) (below_size qB111));have n2_:=qAm (below_step qB111 hb);clear HO205;clear HB;have HO205:=n0_;have HO208:=n1_;have HB:=n2_;clear n0_ n1_ n2_;clear hb ho9));try simp only [Act.put,qSa,qSc,qSb]
   go_loopg [8] k (fun kq v8 w'=>∃(x5_1:List Int) (x7_1:List Int) (x8_1:Int),v8=.int .i64 x8_1∧Aside0 (spec_l01Quotient.l0 kq l1 x5_1 x7_1 x8_1=some r)∧Aside0 (kq≤k)∧Aside0 (Kd.R (Kd.int .i64) 2 w' w.heap.size (fun k_=>some k_≠(v207:Value).ownBlock) v204 x5_1)∧Aside0 (Kd.R (Kd.int .i64) 2 w' w.heap.size (fun k_=>some k_≠(v204:Value).ownBlock) v207 x7_1)∧Aside0 (Below w.heap.size w w'))
   case atStart=>exact⟨(t203),(y206),(wrap64 ((l0.length:Int) - (l1.length:Int))),qB216,H',⟨Nat.le_refl _⟩,⟨by (with_reducible repeat(first|apply Kd.R_alloc|apply Kd.R_drewN|apply Kd.R_drew));exact Kd.R_mono HO205.1 (fun _ hk=>hk.2)⟩,⟨by (with_reducible repeat(first|apply Kd.R_alloc|apply Kd.R_drewN|apply Kd.R_drew));exact Kd.R_mono HO208.1 (fun _ hk=>hk.2)⟩,⟨by repeat(first|(with_reducible first|exact HB.1|apply below_alloc|apply pw_below_drewN|apply below_drew1)|exact HB.1)⟩⟩
   case round=>
    clear H';try clear c1
    try clear p2
    try clear c5
    try clear c5b0
    try clear c5b1
    try clear c6
    try clear c6b0
    try clear c6b1
    try clear p6
    try clear c7
    try clear c8
    obtain⟨x5_1,x7_1,x8_1,rfl,HA,HK1,HO_5,HO_7,HB⟩:=hrel;cases gk with
    |zero=>exact absurd HA.1 (by simp [spec_l01Quotient.l0])
    |succ k1=>
     have H:=HA.1;clear HA;simp only [spec_l01Quotient.l0] at H
     by_cases c10:x8_1≥0
     ·rw [if_pos c10] at H;have c10b0:decide (0≤x8_1)=true:=decide_eq_true c10;clear c10;obtain⟨ji11,hji11⟩:∃j_:Int,(wrap64 ((wrap64 (x8_1+(l1.length:Int))) - 1))=j_:=⟨_,rfl⟩
      replace H:(if 0≤(ji11) then (if (ji11)<(x5_1.length:Int) then (if 0≤x8_1 then (if x8_1<(x7_1.length:Int) then (spec_l01Quotient.l1 k1 l1 x5_1 (x7_1.set (x8_1:Int).toNat (rd x5_1 (ji11))) x8_1 0) else (none)) else (none)) else (none)) else (none))=some r:=by first|(rw [hji11] at H;exact H)|(simp only [hji11] at H ⊢;exact H)
      have hji11w:(IntKind.i64.wrap ((wrap64 (x8_1+(l1.length:Int))) - 1))=ji11:=(i64_w _).trans hji11
      by_cases c12:0≤(ji11)
      ·rw [if_pos c12] at H;have c12b0:decide (0≤(ji11))=true:=decide_eq_true c12;clear c12
       by_cases c13:(ji11)<(x5_1.length:Int)
       ·rw [if_pos c13] at H;have c13b0:decide ((ji11)<(x5_1.length:Int))=true:=decide_eq_true c13;clear c13
        by_cases c14:0≤x8_1
        ·rw [if_pos c14] at H;have c14b0:decide (0≤x8_1)=true:=decide_eq_true c14;clear c14
         by_cases c15:x8_1<(x7_1.length:Int)
         ·rw [if_pos c15] at H;have c15b0:decide (x8_1<(x7_1.length:Int))=true:=decide_eq_true c15;clear c15;obtain⟨y210,hy210⟩:∃y_:List Int,y_=(x7_1.set (x8_1:Int).toNat (rd x5_1 (ji11))):=⟨_,rfl⟩
          replace H:(spec_l01Quotient.l1 k1 l1 x5_1 y210 x8_1 0)=some r:=by first|(rw [hy210];with_reducible exact H)|(have H2_:=(Option.bind_some _ _).symm.trans H;rw [hy210];with_reducible exact H2_)|(have H2_:=(Option.bind_some _ _).symm.trans H;with_reducible exact H2_)|with_reducible exact H|(rw [hy210];exact H)|exact H
          have Ny210:=qAm hy210;clear hy210;have H':=qAm H;clear H;obtain⟨Ao17,co17,eo17⟩:=Kd.R_slice HO_5.1;subst eo17;have p209:0≤((ji11):Int):=of_decide_eq_true qB215;have q209:(ji11)<(x5_1.length:Int):=of_decide_eq_true qB215;obtain⟨ad209,e209,hx209_0⟩:=Kd.at_int (Kd.R_reads' HO_5.1).2.2 (ji11) p209 q209;cases e209
          replace p209:=eq_true p209;replace q209:=eq_true q209;have p16:0≤(x8_1:Int):=of_decide_eq_true qB215;have q16:(x8_1:Int)<((x7_1.length:Int):Int):=of_decide_eq_true qB215;obtain⟨go16,co16,eo16,gb16,gl16,cl16,HG16⟩:=Kd.R_form HO_7.1 (by omega)
          (first|cases eo16|(injection eo16 with ea_ en_ ec_;(first|subst ea_|(injection ea_ with ea_;subst ea_));subst ec_;clear en_))
          have GB16:=qAm gb16;have GG16:=qAm HG16;clear gb16 gl16 HG16;obtain⟨hx16_0,hf16_0⟩:=Kd.R_celln 0 HO_7.1 (x8_1:Int) p16 q16;replace p16:=eq_true p16;replace q16:=eq_true q16;have HP18:=Kd.R_putg HO_7.1 (x8_1:Int) (rd x5_1 (ji11));go_wp2_with (first|((with_reducible refine gate_store (t:=2) (p:=35) rfl ?_);refine store_event (t:=2) (p:=35) (v:=?vo_w19) (w1:=(wr.setCell ⟨go16,(x8_1:Int).toNat,none⟩ (.int .i64 (rd x5_1 (ji11))))) ?hg ?ho ?hn ?hr ?_;(case ho=>rfl);(case hg=>rfl);(case hn=>rfl);(case hr=>first|(go_simp;done)|(go_simp;rfl));intro w19 hw;have hg:wr.grownBy w19 (some go16):=(by rw [hw];exact HP18.2);have hp_:Kd.R (Kd.int .i64) 2 w19 w.heap.size (fun k_=>some k_≠(.slice (some ad209) x5_1.length co17:Value).ownBlock) (.slice (some ⟨go16,0,none⟩) x7_1.length co16) y210:=(by rw [hw,Ny210.1];exact HP18.1);clear HP18;have n0_:=qAm (Kd.R_after (v:=(.slice (some ⟨go16,0,none⟩) x7_1.length co16)) (v1:=(.slice (some ⟨go16,0,none⟩) x7_1.length co16)) (ok:=(fun _=>True)) (by (with_reducible repeat(first|apply Kd.R_alloc|apply Kd.R_drewN|apply Kd.R_drew));exact Kd.R_mono HO_5.1 (fun _ hk=>⟨trivial,hk⟩)) hg (.inl rfl));have n1_:=qAm (hp_);have n2_:=qAm ((by rw [hw];exact below_set (HB.1) GB16.1:Below w.heap.size w w19));clear HO_5;clear HO_7;clear HB;have HO_5:=n0_;have HO_7:=n1_;have HB:=n2_;clear n0_ n1_ n2_;clear hg hw hp_));try simp only [Act.put,qSa,qSc,qSb]
          go_loopg [9] k1 (fun kq v9 w'=>∃(x5_2:List Int) (x9_2:Int),v9=.int .i64 x9_2∧Aside0 (spec_l01Quotient.l1 kq l1 x5_2 y210 x8_1 x9_2=some r)∧Aside0 (kq≤k1)∧Aside0 (Kd.R (Kd.int .i64) 2 w' w.heap.size (fun k_=>some k_≠((.slice (some ⟨go16,0,none⟩) x7_1.length co16):Value).ownBlock) (.slice (some ad209) x5_1.length co17) x5_2)∧Aside0 (Kd.R (Kd.int .i64) 2 w' w.heap.size (fun k_=>some k_≠((.slice (some ad209) x5_1.length co17):Value).ownBlock) (.slice (some ⟨go16,0,none⟩) x7_1.length co16) y210)∧Aside0 (Below w.heap.size w w'))
          case atStart=>exact⟨(x5_1),(0),qB216,H',⟨Nat.le_refl _⟩,⟨by (with_reducible repeat(first|apply Kd.R_alloc|apply Kd.R_drewN|apply Kd.R_drew));exact Kd.R_mono HO_5.1 (fun _ hk=>hk.2)⟩,⟨by (with_reducible repeat(first|apply Kd.R_alloc|apply Kd.R_drewN|apply Kd.R_drew));exact HO_7.1⟩,⟨by repeat(first|(with_reducible first|exact HB.1|apply below_alloc|apply pw_below_drewN|apply below_drew1)|exact HB.1)⟩⟩
          case round=>
           clear H';try clear c1
           try clear p1
           try clear q1
           try clear hx1
           try clear p2
           try clear q2
           try clear hx2
           try clear c5
           try clear c5b0
           try clear c5b1
           try clear c6
           try clear c6b0
           try clear c6b1
           try clear p6
           try clear c7
           try clear c8
           try clear c10
           try clear c10b0
           try clear c12
           try clear c12b0
           try clear c13
           try clear c13b0
           try clear c14
           try clear c14b0
           try clear c15
           try clear c15b0
           try clear p16
           try clear q16
           try clear hx16
           try clear hf16
           try clear hx16_0
           try clear hx209_0
           try clear p16
           try clear p2
           try clear p209
           try clear p6
           try clear q16
           try clear q209
           obtain⟨x5_2,x9_2,rfl,HA,HK2,HO_5,HO_7,HB⟩:=hrel;have hl5_2:=(Kd.R_reads' HO_5.1).1;rw [hl5_2] at HO_5
           (try simp only [hl5_2])
           (try simp only [hl5_2] at HO_7)
           have hl7_2:=(Kd.R_reads' HO_7.1).1;rw [hl7_2] at HO_7
           (try simp only [hl7_2])
           (try simp only [hl7_2] at HO_5)
           cases gk with
           |zero=>exact absurd HA.1 (by simp [spec_l01Quotient.l1])
           |succ k2=>
            have H:=HA.1;clear HA;simp only [spec_l01Quotient.l1] at H
            by_cases c20:x9_2<(l1.length:Int)
            ·rw [if_pos c20] at H;have c20b0:decide (x9_2<(l1.length:Int))=true:=decide_eq_true c20;clear c20;obtain⟨ji21,hji21⟩:∃j_:Int,(wrap64 (x8_1+x9_2))=j_:=⟨_,rfl⟩
             replace H:(if 0≤(ji21) then (if (ji21)<(x5_2.length:Int) then (if 0≤x8_1 then (if x8_1<(y210.length:Int) then (if 0≤x9_2 then (spec_l01Quotient.l1 k2 l1 (x5_2.set ((ji21):Int).toNat (wrap64 ((rd x5_2 (ji21)) - (wrap64 ((rd y210 x8_1)*(rd l1 x9_2)))))) y210 x8_1 (wrap64 (x9_2+1))) else (none)) else (none)) else (none)) else (none)) else (none))=some r:=by first|(rw [hji21] at H;exact H)|(simp only [hji21] at H ⊢;exact H)
             have hji21w:(IntKind.i64.wrap (x8_1+x9_2))=ji21:=(i64_w _).trans hji21
             by_cases c22:0≤(ji21)
             ·rw [if_pos c22] at H;have c22b0:decide (0≤(ji21))=true:=decide_eq_true c22;clear c22
              by_cases c23:(ji21)<(x5_2.length:Int)
              ·rw [if_pos c23] at H;have c23b0:decide ((ji21)<(x5_2.length:Int))=true:=decide_eq_true c23;clear c23
               by_cases c24:0≤x8_1
               ·rw [if_pos c24] at H;have c24b0:decide (0≤x8_1)=true:=decide_eq_true c24;clear c24
                by_cases c25:x8_1<(y210.length:Int)
                ·rw [if_pos c25] at H;have c25b0:decide (x8_1<(y210.length:Int))=true:=decide_eq_true c25;clear c25
                 by_cases c26:0≤x9_2
                 ·rw [if_pos c26] at H;have c26b0:decide (0≤x9_2)=true:=decide_eq_true c26;clear c26;obtain⟨y214,hy214⟩:∃y_:List Int,y_=(x5_2.set ((ji21):Int).toNat (wrap64 ((rd x5_2 (ji21)) - (wrap64 ((rd y210 x8_1)*(rd l1 x9_2)))))):=⟨_,rfl⟩
                  replace H:(spec_l01Quotient.l1 k2 l1 y214 y210 x8_1 (wrap64 (x9_2+1)))=some r:=by first|(rw [hy214];with_reducible exact H)|(have H2_:=(Option.bind_some _ _).symm.trans H;rw [hy214];with_reducible exact H2_)|(have H2_:=(Option.bind_some _ _).symm.trans H;with_reducible exact H2_)|with_reducible exact H|(rw [hy214];exact H)|exact H
                  have Ny214:=qAm hy214;clear hy214;have H':=qAm H;clear H;try go_wp2
                  have n0_:=qAm (Kd.R_drew HO_5.1);have n1_:=qAm (Kd.R_drew HO_7.1);have n2_:=qAm (below_drew1 HB.1);clear HO_5 HO_7 HB;have HO_5:=n0_;have HO_7:=n1_;have HB:=n2_;clear n0_ n1_ n2_;have p211:0≤((ji21):Int):=of_decide_eq_true qB215;have q211:(ji21)<(x5_2.length:Int):=of_decide_eq_true qB215;obtain⟨ad211,e211,hx211_0⟩:=Kd.at_int (Kd.R_reads' HO_5.1).2.2 (ji21) p211 q211;obtain rfl:ad209=ad211:=(by injection e211)
                  replace p211:=eq_true p211;replace q211:=eq_true q211;have p212:0≤(x8_1:Int):=of_decide_eq_true qB215;have q212:x8_1<(y210.length:Int):=of_decide_eq_true qB215;obtain⟨ad212,e212,hx212_0⟩:=Kd.at_int (Kd.R_reads' HO_7.1).2.2 x8_1 p212 q212;obtain rfl:(⟨go16,0,none⟩:Addr)=ad212:=(by injection e212)
                  (first|simp only [add_plain] at hx212_0|simp only [add_at] at hx212_0|simp only [Addr.add,Nat.zero_add] at hx212_0|skip)
                  replace p212:=eq_true p212;replace q212:=eq_true q212;have p213:0≤(x9_2:Int):=of_decide_eq_true qB215;have q213:x9_2<(l1.length:Int):=of_decide_eq_true qB215;obtain⟨ad213,e213,hx213_0⟩:=Kd.at_int HR1.1 x9_2 p213 q213;have hw213_0:=hx213_0;cases e213
                  replace hx213_0:=(HB.1.cell (World.block_lt_of_cell? w _ hx213_0)).trans hx213_0;replace p213:=eq_true p213;replace q213:=eq_true q213;have p27:0≤((ji21):Int):=of_decide_eq_true qB215;have q27:((ji21):Int)<((x5_2.length:Int):Int):=of_decide_eq_true qB215;obtain⟨go27,co27,eo27,gb27,gl27,cl27,HG27⟩:=Kd.R_form HO_5.1 (by omega)
                  (first|cases eo27|(injection eo27 with ea_ en_ ec_;(first|subst ea_|(injection ea_ with ea_;subst ea_));subst ec_;clear en_))
                  have GB27:=qAm gb27;have GG27:=qAm HG27;clear gb27 gl27 HG27
                  (first|simp only [add_plain] at hx209_0|skip)
                  (first|simp only [add_plain] at hx211_0|skip)
                  obtain⟨hx27_0,hf27_0⟩:=Kd.R_celln 0 HO_5.1 ((ji21):Int) p27 q27;replace p27:=eq_true p27;replace q27:=eq_true q27;have HP29:=Kd.R_putn HO_5.1 ((ji21):Int) (wrap64 ((rd x5_2 (ji21)) - (wrap64 ((rd y210 x8_1)*(rd l1 x9_2)))));rw [← Ny214.1] at HP29;have HQ29:=qAm HP29;clear HP29;refine start_ (n:=22) (S:=fun w'=>w'.cell? ⟨go27,((ji21)).toNat,none⟩=some (.int .i64 (rd x5_2 (ji21)))∧w'.cell? ⟨go16,(x8_1).toNat,none⟩=some (.int .i64 (rd y210 x8_1))∧w'.cell? (ad213.add (x9_2).toNat)=some (.int .i64 (rd l1 x9_2))) (ds:=[21]) #[false,false,false,false,false,false,false,false,false,false,false,false,false,false,false,false,false,false,false,false,false,false] (by kernel_rfl) rfl rfl ⟨hx211_0,hx212_0,((HB.1.cell (World.block_lt_of_cell? w _ hw213_0)).trans hw213_0)⟩ (fun hHeld=>?_);refine with_tabW spec_l01Quotient.tab10 spec_l01Quotient.bits10 (fun HT_ HW_=>?_)
                  (first|generalize wr.drew=w28 at HO_5 HO_7 HB GG27 HQ29 hf27_0 hx209_0 hx211_0 hx212_0 hx213_0 hx27_0 hHeld ⊢|generalize wr.drew=w28 at HO_5 HO_7 HB GG27 HQ29 hf27_0 hx211_0 hx212_0 hx213_0 hx27_0 hHeld ⊢)
                  refine pure_ (i:=0) (N:=some 42) (v:=?_) (a':=?_) #[true,false,false,false,false,false,false,false,false,false,false,false,false,false,false,false,false,false,false,false,false,false] rfl rfl (any_of HT_.1 (by kernel_rfl)) (fun _ _ _ h=>h) (Or.inl ⟨by rfl,?_⟩) ?_ ?_;rotate_left
                  ·intro w';go_simp;with_reducible rfl
                  rotate_left
                  ·exact qU
                  refine pure_ (i:=1) (N:=some 43) (v:=?_) (a':=?_) #[true,true,false,false,false,false,false,false,false,false,false,false,false,false,false,false,false,false,false,false,false,false] rfl rfl (any_of HT_.1 (by kernel_rfl)) (fun _ _ _ h=>h) (Or.inl ⟨by rfl,?_⟩) ?_ ?_;rotate_left
                  ·intro w';go_simp;with_reducible rfl
                  rotate_left
                  ·exact qU
                  refine pure_ (i:=2) (N:=some 44) (v:=?_) (a':=?_) #[true,true,true,false,false,false,false,false,false,false,false,false,false,false,false,false,false,false,false,false,false,false] rfl rfl (any_of HT_.1 (by kernel_rfl)) (fun _ _ _ h=>h) (Or.inl ⟨by rfl,?_⟩) ?_ ?_;rotate_left
                  ·intro w';go_simp;with_reducible rfl
                  rotate_left
                  ·exact qU
                  refine pure_ (i:=3) (N:=some 45) (v:=?_) (a':=?_) #[true,true,true,true,false,false,false,false,false,false,false,false,false,false,false,false,false,false,false,false,false,false] rfl rfl (any_of HT_.1 (by kernel_rfl)) (fun _ _ _ h=>h) (Or.inl ⟨by rfl,?_⟩) ?_ ?_;rotate_left
                  ·intro w';go_simp;with_reducible rfl
                  rotate_left
                  ·exact qU
                  refine pure_ (i:=4) (N:=some 46) (v:=?_) (a':=?_) #[true,true,true,true,true,false,false,false,false,false,false,false,false,false,false,false,false,false,false,false,false,false] rfl rfl (any_of HT_.1 (by kernel_rfl)) (fun _ _ _ h=>h) (Or.inl ⟨by rfl,?_⟩) ?_ ?_;rotate_left
                  ·intro w';go_simp;with_reducible rfl
                  rotate_left
                  ·exact qU
                  refine pure_ (i:=5) (N:=some 47) (v:=?_) (a':=?_) #[true,true,true,true,true,true,false,false,false,false,false,false,false,false,false,false,false,false,false,false,false,false] rfl rfl (any_of HT_.1 (by kernel_rfl)) (fun _ _ _ h=>h) (Or.inl ⟨by rfl,?_⟩) ?_ ?_;rotate_left
                  ·intro w';go_simp;with_reducible rfl
                  rotate_left
                  ·exact qU
                  refine pure_ (i:=6) (N:=some 48) (v:=?_) (a':=?_) #[true,true,true,true,true,true,true,false,false,false,false,false,false,false,false,false,false,false,false,false,false,false] rfl rfl (any_of HT_.1 (by kernel_rfl)) (fun _ _ _ h=>h) (Or.inl ⟨by rfl,?_⟩) ?_ ?_;rotate_left
                  ·intro w';go_simp;with_reducible rfl
                  rotate_left
                  ·exact qU
                  refine pure_ (i:=7) (N:=some 49) (v:=?_) (a':=?_) #[true,true,true,true,true,true,true,true,false,false,false,false,false,false,false,false,false,false,false,false,false,false] rfl rfl (any_of HT_.1 (by kernel_rfl)) (fun _ _ _ h=>h) (Or.inl ⟨by rfl,?_⟩) ?_ ?_;rotate_left
                  ·intro w';go_simp;with_reducible rfl
                  rotate_left
                  ·exact qU
                  refine pure_ (i:=8) (N:=some 50) (v:=?_) (a':=?_) #[true,true,true,true,true,true,true,true,true,false,false,false,false,false,false,false,false,false,false,false,false,false] rfl rfl (any_of HT_.1 (by kernel_rfl)) (fun _ _ _ h=>h) (Or.inl ⟨by rfl,?_⟩) ?_ ?_;rotate_left
                  ·intro w';go_simp;with_reducible rfl
                  rotate_left
                  ·exact qU
                  refine pure_ (i:=10) (N:=some 52) (v:=?_) (a':=?_) #[true,true,true,true,true,true,true,true,true,false,true,false,false,false,false,false,false,false,false,false,false,false] rfl rfl (any_of HT_.1 (by kernel_rfl)) (fun _ _ _ h=>h) (Or.inl ⟨by rfl,?_⟩) ?_ ?_;rotate_left
                  ·intro w';go_simp;with_reducible rfl
                  rotate_left
                  ·exact qU
                  refine pure_ (i:=11) (N:=some 53) (v:=?_) (a':=?_) #[true,true,true,true,true,true,true,true,true,false,true,true,false,false,false,false,false,false,false,false,false,false] rfl rfl (any_of HT_.1 (by kernel_rfl)) (fun _ _ _ h=>h) (Or.inl ⟨by rfl,?_⟩) ?_ ?_;rotate_left
                  ·intro w';go_simp;with_reducible rfl
                  rotate_left
                  ·exact qU
                  refine pure_ (i:=12) (N:=some 54) (v:=?_) (a':=?_) #[true,true,true,true,true,true,true,true,true,false,true,true,true,false,false,false,false,false,false,false,false,false] rfl rfl (any_of HT_.1 (by kernel_rfl)) (fun _ _ _ h=>h) (Or.inl ⟨by rfl,?_⟩) ?_ ?_;rotate_left
                  ·intro w';go_simp;with_reducible rfl
                  rotate_left
                  ·exact qU
                  refine pure_ (i:=14) (N:=some 56) (v:=?_) (a':=?_) #[true,true,true,true,true,true,true,true,true,false,true,true,true,false,true,false,false,false,false,false,false,false] rfl rfl (any_of HT_.1 (by kernel_rfl)) (fun _ _ _ h=>h) (Or.inl ⟨by rfl,?_⟩) ?_ ?_;rotate_left
                  ·intro w';go_simp;with_reducible rfl
                  rotate_left
                  ·exact qU
                  refine pure_ (i:=15) (N:=some 57) (v:=?_) (a':=?_) #[true,true,true,true,true,true,true,true,true,false,true,true,true,false,true,true,false,false,false,false,false,false] rfl rfl (any_of HT_.1 (by kernel_rfl)) (fun _ _ _ h=>h) (Or.inl ⟨by rfl,?_⟩) ?_ ?_;rotate_left
                  ·intro w';go_simp;with_reducible rfl
                  rotate_left
                  ·exact qU
                  refine pure_ (i:=16) (N:=some 58) (v:=?_) (a':=?_) #[true,true,true,true,true,true,true,true,true,false,true,true,true,false,true,true,true,false,false,false,false,false] rfl rfl (any_of HT_.1 (by kernel_rfl)) (fun _ _ _ h=>h) (Or.inl ⟨by rfl,?_⟩) ?_ ?_;rotate_left
                  ·intro w';go_simp;with_reducible rfl
                  rotate_left
                  ·exact qU
                  refine take_ (i:=9) (N:=some 51) (v:=?_) (a':=?_) #[true,true,true,true,true,true,true,true,true,true,true,true,true,false,true,true,true,false,false,false,false,false] rfl rfl (take_ofW HT_.1 HW_.1 (by kernel_rfl)) (fun _ _ _ h=>h) (Or.inl ⟨by rfl,?_⟩) hHeld ?_ ?_;rotate_left
                  ·rintro w' ⟨s0,s1,s2⟩;go_simp;with_reducible rfl
                  rotate_left
                  ·exact qU
                  refine take_ (i:=13) (N:=some 55) (v:=?_) (a':=?_) #[true,true,true,true,true,true,true,true,true,true,true,true,true,true,true,true,true,false,false,false,false,false] rfl rfl (take_ofW HT_.1 HW_.1 (by kernel_rfl)) (fun _ _ _ h=>h) (Or.inl ⟨by rfl,?_⟩) hHeld ?_ ?_;rotate_left
                  ·rintro w' ⟨s0,s1,s2⟩;go_simp;with_reducible rfl
                  rotate_left
                  ·exact qU
                  refine take_ (i:=17) (N:=some 59) (v:=?_) (a':=?_) #[true,true,true,true,true,true,true,true,true,true,true,true,true,true,true,true,true,true,false,false,false,false] rfl rfl (take_ofW HT_.1 HW_.1 (by kernel_rfl)) (fun _ _ _ h=>h) (Or.inl ⟨by rfl,?_⟩) hHeld ?_ ?_;rotate_left
                  ·rintro w' ⟨s0,s1,s2⟩;go_simp;with_reducible rfl
                  rotate_left
                  ·exact qU
                  refine pure_ (i:=18) (N:=some 60) (v:=?_) (a':=?_) #[true,true,true,true,true,true,true,true,true,true,true,true,true,true,true,true,true,true,true,false,false,false] rfl rfl (any_of HT_.1 (by kernel_rfl)) (fun _ _ _ h=>h) (Or.inl ⟨by rfl,?_⟩) ?_ ?_;rotate_left
                  ·intro w';go_simp;with_reducible rfl
                  rotate_left
                  ·exact qU
                  refine pure_ (i:=19) (N:=some 61) (v:=?_) (a':=?_) #[true,true,true,true,true,true,true,true,true,true,true,true,true,true,true,true,true,true,true,true,false,false] rfl rfl (any_of HT_.1 (by kernel_rfl)) (fun _ _ _ h=>h) (Or.inl ⟨by rfl,?_⟩) ?_ ?_;rotate_left
                  ·intro w';go_simp;with_reducible rfl
                  rotate_left
                  ·exact qU
                  refine pure_ (i:=20) (N:=some 62) (v:=?_) (a':=?_) #[true,true,true,true,true,true,true,true,true,true,true,true,true,true,true,true,true,true,true,true,true,false] rfl rfl (any_of HT_.1 (by kernel_rfl)) (fun _ _ _ h=>h) (Or.inl ⟨by rfl,?_⟩) ?_ ?_;rotate_left
                  ·intro w';go_simp;with_reducible rfl
                  rotate_left
                  ·exact qU
                  refine last_ (i:=21) (N:=none) #[true,true,true,true,true,true,true,true,true,true,true,true,true,true,true,true,true,true,true,true,true,true] rfl rfl (one_of HT_.1 (by kernel_rfl)) (by decide) (fun K hK=>?_);refine skip_ (w1:=?_) (by rfl) rfl ?_ ?_;rotate_left
                  ·go_simp;rfl
                  refine hK.out _ _ ?_;clear hK K;refine done_ (done_of HT_.1 (by kernel_rfl)) ?_;try go_wp2
                  (try simp only [← hl5_2,← hl7_2])
                  (first|go_roundg k2|((try simp only [add_plain] at *);go_roundg k2))
                  case measure=>have:=HK1.1;have:=HK2.1;omega
                  case rel=>exact⟨(y214),(wrap64 (x9_2+1)),qB216,H',⟨by have:=HK1.1;have:=HK2.1;omega⟩,⟨by (try simp only [hl5_2]);(try simp only [hl7_2]);(with_reducible repeat(first|apply Kd.R_alloc|apply Kd.R_drewN|apply Kd.R_drew));exact HQ29.1⟩,⟨by (try simp only [hl5_2]);(try simp only [hl7_2]);(with_reducible repeat(first|apply Kd.R_alloc|apply Kd.R_drewN|apply Kd.R_drew));exact Kd.R_mono (Kd.R_far (p:=⟨go27,((ji21):Int).toNat,none⟩) (Kd.R_mono HO_7.1 (fun k_ hk=>(⟨hk,fun e_=>hk (by rw [e_];rfl)⟩:_∧k_≠go27))) (fun _ hk=>hk.2) (.int .i64 (wrap64 ((rd x5_2 (ji21)) - (wrap64 ((rd y210 x8_1)*(rd l1 x9_2))))))) (fun _ hk=>hk.1)⟩,⟨by repeat(first|(with_reducible first|exact HB.1|apply below_alloc|apply pw_below_drewN|apply below_drew1|refine below_set ?_ GB27.1)|exact HB.1)⟩⟩
                 ·rw [if_neg c26] at H;exact absurd H (by simp)
                ·rw [if_neg c25] at H;exact absurd H (by simp)
               ·rw [if_neg c24] at H;exact absurd H (by simp)
              ·rw [if_neg c23] at H;exact absurd H (by simp)
             ·rw [if_neg c22] at H;exact absurd H (by simp)
            ·rw [if_neg c20] at H;have c20b0:decide (x9_2<(l1.length:Int))=false:=decide_eq_false c20;have c20b0_0:=c20b0
             (try rw [hl5_2] at c20b0_0)
             have c20b0_1:=c20b0
             (try rw [hl7_2] at c20b0_1)
             clear c20;have H':=qAm H;clear H;go_wp2
             (try simp only [← hl5_2,← hl7_2])
             (first|go_roundg k2|((try simp only [add_plain] at *);go_roundg k2))
             case measure=>have:=HK1.1;have:=HK2.1;omega
             case rel=>exact⟨(x5_2),(y210),(wrap64 (x8_1 - 1)),qB216,H',⟨by have:=HK1.1;have:=HK2.1;omega⟩,⟨by (try simp only [hl5_2]);(try simp only [hl7_2]);(with_reducible repeat(first|apply Kd.R_alloc|apply Kd.R_drewN|apply Kd.R_drew));exact HO_5.1⟩,⟨by (try simp only [hl5_2]);(try simp only [hl7_2]);(with_reducible repeat(first|apply Kd.R_alloc|apply Kd.R_drewN|apply Kd.R_drew));exact HO_7.1⟩,⟨by repeat(first|(with_reducible first|exact HB.1|apply below_alloc|apply pw_below_drewN|apply below_drew1)|exact HB.1)⟩⟩
         ·rw [if_neg c15] at H;exact absurd H (by simp)
        ·rw [if_neg c14] at H;exact absurd H (by simp)
       ·rw [if_neg c13] at H;exact absurd H (by simp)
      ·rw [if_neg c12] at H;exact absurd H (by simp)
     ·rw [if_neg c10] at H;have c10b0:decide (0≤x8_1)=false:=decide_eq_false c10;clear c10;obtain rfl:=Option.some.inj H;go_wp2;go_ret;exact⟨_,by first|rfl|(simp [errW_none,errW_some] <;> rfl)|(simp only [← hji4];first|rfl|(simp [errW_none,errW_some] <;> rfl))|(simp [*,errW_none,errW_some] <;> rfl),by (with_reducible repeat(first|apply Kd.R_alloc|apply Kd.R_drewN|apply Kd.R_drew));exact Kd.R_mono HO_7.1 (fun _ hk=>trivial),by repeat(first|(with_reducible first|exact HB.1|apply below_alloc|apply pw_below_drewN|apply below_drew1)|exact HB.1)⟩
  ·rw [if_neg c6] at H;exact absurd H (by simp)
 ·rw [if_neg c5] at H;exact absurd H (by simp)

/-! ### spec_l01Cyclotomic: function 76 -/
mutual
def spec_l01Cyclotomic.l0:Nat→Int→List Int→Int→Option (List Int)
 |0,_,_,_=>none
 |k+1,x0,x3,x4=>if x4<x0 then (if x4=0 then (none) else (if (Int.tmod x0 x4)=0 then ((spec_l01Cyclotomic.f k x4).bind fun t220=>((spec_l01Quotient.f k x3 t220).bind fun t223=>(spec_l01Cyclotomic.l0 k x0 t223 (wrap64 (x4+1))))) else (spec_l01Cyclotomic.l0 k x0 x3 (wrap64 (x4+1))))) else (some x3)
def spec_l01Cyclotomic.f:Nat→Int→Option (List Int)
 |0,_=>none
 |k+1,a0=>if 0≤(wrap64 (a0+1)) then (if (wrap64 (a0+1):Int).toNat≤35184372088832 then ((some (List.replicate (wrap64 (a0+1):Int).toNat 0:List Int)).bind fun y215=>(if 0<(y215.length:Int) then (if 0≤a0 then (if a0<(y215.length:Int) then (spec_l01Cyclotomic.l0 k a0 ((y215.set (0:Int).toNat (-1)).set (a0:Int).toNat 1) 1) else (none)) else (none)) else (none))) else (none)) else (none)
end
theorem spec_l01Cyclotomic.mono_l:∀k,(∀y0,LeO (spec_l01Cyclotomic.f k y0) (spec_l01Cyclotomic.f (k+1) y0))∧(∀y0 y1 y2,LeO (spec_l01Cyclotomic.l0 k y0 y1 y2) (spec_l01Cyclotomic.l0 (k+1) y0 y1 y2))
 |0=>⟨fun _ r h=>by simp [spec_l01Cyclotomic.f] at h,fun _ _ _ r h=>by simp [spec_l01Cyclotomic.l0] at h⟩
 |k+1=>by
  obtain⟨ih0,ih1⟩:=spec_l01Cyclotomic.mono_l k;refine⟨?_,?_⟩
  ·intro y0;unfold spec_l01Cyclotomic.f;repeat' first
   |(with_reducible exact ih0 _)
   |(with_reducible exact ih1 _ _ _)
   |(with_reducible exact spec_l01Quotient.mono _ _ _)
   |(with_reducible exact LeO.refl _)
   |(with_reducible exact LeO.none _)
   |(with_reducible refine LeO.ite ?_ ?_)
   |(with_reducible refine LeO.bind ?_ (fun _=>?_))
   |exact ih0 _
   |exact ih1 _ _ _
   |exact spec_l01Quotient.mono _ _ _
   |exact LeO.none _
   |refine LeO.ite ?_ ?_
   |refine LeO.bind ?_ (fun _=>?_)
  ·intro y0 y1 y2;unfold spec_l01Cyclotomic.l0;repeat' first
   |(with_reducible exact ih0 _)
   |(with_reducible exact ih1 _ _ _)
   |(with_reducible exact spec_l01Quotient.mono _ _ _)
   |(with_reducible exact LeO.refl _)
   |(with_reducible exact LeO.none _)
   |(with_reducible refine LeO.ite ?_ ?_)
   |(with_reducible refine LeO.bind ?_ (fun _=>?_))
   |exact ih0 _
   |exact ih1 _ _ _
   |exact spec_l01Quotient.mono _ _ _
   |exact LeO.none _
   |refine LeO.ite ?_ ?_
   |refine LeO.bind ?_ (fun _=>?_)
theorem spec_l01Cyclotomic.mono:∀a0 k,LeO (spec_l01Cyclotomic.f k a0) (spec_l01Cyclotomic.f (k+1) a0):=by
 intro a0 k;obtain⟨ih0,ih1⟩:=spec_l01Cyclotomic.mono_l k;exact ih0 a0
set_option maxHeartbeats 8000000 in
set_option maxRecDepth 100000 in
theorem spec_l01Cyclotomic.calls (k:Nat):∀(a0:Int) (r:List Int) (w:World) (h:spec_l01Cyclotomic.f k a0=some r),
  Calls Try.prog 76 #[.int .i64 a0] w fun e w'=>∃v0_:Value,e=.returned (v0_)∧Kd.R (Kd.int .i64) 2 w' w.heap.size (fun _=>True) v0_ r∧Below w.heap.size w w':=by
 induction k using Nat.strongRecOn with
 |_ k ih=>
 intro a0 r w h;cases k with
 |zero=>exact absurd h (by simp [spec_l01Cyclotomic.f])
 |succ k=>
 simp only [spec_l01Cyclotomic.f] at h;have HB:=qAm (Below.refl w.heap.size w);have H:(if 0≤(wrap64 (a0+1)) then (if (wrap64 (a0+1):Int).toNat≤35184372088832 then ((some (List.replicate (wrap64 (a0+1):Int).toNat 0:List Int)).bind fun y215=>(if 0<(y215.length:Int) then (if 0≤a0 then (if a0<(y215.length:Int) then (spec_l01Cyclotomic.l0 k a0 ((y215.set (0:Int).toNat (-1)).set (a0:Int).toNat 1) 1) else (none)) else (none)) else (none))) else (none)) else (none))=some r:=h;clear h;obtain⟨ji2,hji2⟩:∃j_:Int,(wrap64 (a0+1))=j_:=⟨_,rfl⟩
 replace H:(if 0≤(ji2) then (if (ji2:Int).toNat≤35184372088832 then ((some (List.replicate (ji2:Int).toNat 0:List Int)).bind fun y215=>(if 0<(y215.length:Int) then (if 0≤a0 then (if a0<(y215.length:Int) then (spec_l01Cyclotomic.l0 k a0 ((y215.set (0:Int).toNat (-1)).set (a0:Int).toNat 1) 1) else (none)) else (none)) else (none))) else (none)) else (none))=some r:=by first|(rw [hji2] at H;exact H)|(simp only [hji2] at H ⊢;exact H)
 have hji2w:(IntKind.i64.wrap (a0+1))=ji2:=(i64_w _).trans hji2
 by_cases c3:0≤(ji2)
 ·rw [if_pos c3] at H;have c3b0:=eq_true c3;have c3b1:decide (0≤(ji2))=true:=decide_eq_true c3;clear c3
  by_cases c4:(ji2:Int).toNat≤35184372088832
  ·rw [if_pos c4] at H;have c4b0:=eq_true c4;have c4b1:decide ((ji2:Int).toNat≤35184372088832)=true:=decide_eq_true c4;clear c4;obtain⟨y215,hy215⟩:∃y_:List Int,y_=(List.replicate (ji2:Int).toNat 0):=⟨_,rfl⟩
   replace H:(if 0<(y215.length:Int) then (if 0≤a0 then (if a0<(y215.length:Int) then (spec_l01Cyclotomic.l0 k a0 ((y215.set (0:Int).toNat (-1)).set (a0:Int).toNat 1) 1) else (none)) else (none)) else (none))=some r:=by first|(rw [hy215];with_reducible exact H)|(have H2_:=(Option.bind_some _ _).symm.trans H;rw [hy215];with_reducible exact H2_)|(have H2_:=(Option.bind_some _ _).symm.trans H;with_reducible exact H2_)|with_reducible exact H|(rw [hy215];exact H)|exact H
   have Ny215:=qAm hy215;clear hy215
   by_cases c5:0<(y215.length:Int)
   ·rw [if_pos c5] at H;have c5b0:decide (0<(y215.length:Int))=true:=decide_eq_true c5;have c5b1:decide (0<y215.length)=true:=decide_eq_true (by omega);clear c5;obtain⟨y218,hy218⟩:∃y_:List Int,y_=(y215.set (0:Int).toNat (-1)):=⟨_,rfl⟩
    replace H:(if 0≤a0 then (if a0<(y215.length:Int) then (spec_l01Cyclotomic.l0 k a0 (y218.set (a0:Int).toNat 1) 1) else (none)) else (none))=some r:=by first|(rw [hy218];with_reducible exact H)|(have H2_:=(Option.bind_some _ _).symm.trans H;rw [hy218];with_reducible exact H2_)|(have H2_:=(Option.bind_some _ _).symm.trans H;with_reducible exact H2_)|with_reducible exact H|(rw [hy218];exact H)|exact H
    have Ny218:=qAm hy218;clear hy218
    by_cases c7:0≤a0
    ·rw [if_pos c7] at H;have c7b0:decide (0≤a0)=true:=decide_eq_true c7;clear c7
     by_cases c8:a0<(y215.length:Int)
     ·rw [if_pos c8] at H;have c8b0:decide (a0<(y215.length:Int))=true:=decide_eq_true c8;clear c8;obtain⟨y219,hy219⟩:∃y_:List Int,y_=(y218.set (a0:Int).toNat 1):=⟨_,rfl⟩
      replace H:(spec_l01Cyclotomic.l0 k a0 y219 1)=some r:=by first|(rw [hy219];with_reducible exact H)|(have H2_:=(Option.bind_some _ _).symm.trans H;rw [hy219];with_reducible exact H2_)|(have H2_:=(Option.bind_some _ _).symm.trans H;with_reducible exact H2_)|with_reducible exact H|(rw [hy219];exact H)|exact H
      have Ny219:=qAm hy219;clear hy219;have H':=qAm H;clear H;go_enter Try.func76,Try.ntmps76;go_wp2_with (first|((with_reducible refine gate_dst (N:=7) rfl ?_);refine Kd.R_make (Kd.int .i64) _ 2 rfl (N:=7) rfl 22 _ _ rfl ji2 rfl rfl Try.underlying22 (.int .i64 0) 8 info2 rfl (by decide) (by omega) 0 (ok:=fun _=>True) (okp:=fun _=>True) rfl (fun _ hk=>hk) trivial (of_decide_eq_true qB215) (Nat.le_trans (Nat.mul_le_mul_right _ (of_decide_eq_true qB215:ji2.toNat≤35184372088832)) (by omega)) (Below.refl _ _) (Nat.le_refl _) ?_;intro v216 w10 ho11 hb hg_ hnew_;clear hg_ hnew_;(first|rw [← Ny215.1] at ho11|(simp only [Int.reduceToNat] at ho11;rw [← Ny215.1] at ho11));have n0_:=qAm (Kd.R_lower ho11 (below_size qB111));have n1_:=qAm (below_step qB111 hb);clear HB;have HO217:=n0_;have HB:=n1_;clear n0_ n1_;clear hb ho11;have p6:0≤(0:Int):=(by omega);have q6:(0:Int)<((y215.length:Int):Int):=of_decide_eq_true qB215;have qi6:(0<y215.length)=True:=eq_true (by omega);obtain⟨go6,co6,eo6,gb6,gl6,cl6,HG6⟩:=Kd.R_form HO217.1 (by omega);(first|cases eo6|(injection eo6 with ea_ en_ ec_;(first|subst ea_|(injection ea_ with ea_;subst ea_));subst ec_;clear en_));have GB6:=qAm gb6;have GG6:=qAm HG6;clear gb6 gl6 HG6;obtain⟨hx6_0,hf6_0⟩:=Kd.R_celln 0 HO217.1 (0:Int) p6 q6;(try rw [show((0:Int)).toNat=0 from rfl] at hx6_0);(try simp only [Nat.reduceMul,Nat.zero_mul,Nat.zero_add,Nat.reduceAdd] at hx6_0);(try rw [show((0:Int)).toNat=0 from rfl] at hf6_0);(try simp only [Nat.reduceMul,Nat.zero_mul,Nat.zero_add,Nat.reduceAdd] at hf6_0);replace p6:=eq_true p6;replace q6:=eq_true q6;obtain⟨hy12_,hz12_⟩:=Kd.R_celln 0 HO217.1 (0:Int) (by omega) (of_decide_eq_true qB215);(try simp only [Int.reduceToNat,Int.toNat_zero,Int.toNat_ofNat,Nat.reduceMul,Nat.zero_mul,Nat.zero_add] at hy12_ hz12_);(try rw [show((0:Int)).toNat=0 from rfl] at hy12_);(try rw [show((0:Int)).toNat=0 from rfl] at hz12_);have HP12:=Kd.R_putg HO217.1 (0:Int) (-1))|((with_reducible refine gate_store (t:=2) (p:=9) rfl ?_);refine store_event (t:=2) (p:=9) (v:=?vo_w13) (w1:=(w10.setCell ⟨go6,(0:Int).toNat,none⟩ (.int .i64 (-1)))) ?hg ?ho ?hn ?hr ?_;(case ho=>rfl);(case hg=>rfl);(case hn=>rfl);(case hr=>first|(go_simp;done)|(go_simp;rfl));intro w13 hw;have hg:w10.grownBy w13 (some go6):=(by rw [hw];exact HP12.2);have hp_:Kd.R (Kd.int .i64) 2 w13 w.heap.size (fun _=>True) (.slice (some ⟨go6,0,none⟩) y215.length co6) y218:=(by rw [hw,Ny218.1];exact HP12.1);clear HP12;have n0_:=qAm (hp_);have n1_:=qAm ((by rw [hw];exact below_set (HB.1) GB6.1:Below w.heap.size w w13));clear HO217;clear HB;have HO217:=n0_;have HB:=n1_;clear n0_ n1_;clear hg hw hp_;have p9:0≤(a0:Int):=of_decide_eq_true qB215;have q9:(a0:Int)<((y215.length:Int):Int):=of_decide_eq_true qB215;obtain⟨hx9_0,hf9_0⟩:=Kd.R_celln 0 HO217.1 (a0:Int) p9 q9;replace p9:=eq_true p9;replace q9:=eq_true q9;obtain⟨hy14_,hz14_⟩:=Kd.R_celln 0 HO217.1 (a0:Int) (of_decide_eq_true qB215) (of_decide_eq_true qB215);have HP14:=Kd.R_putg HO217.1 (a0:Int) 1)|((with_reducible refine gate_store (t:=2) (p:=12) rfl ?_);refine store_event (t:=2) (p:=12) (v:=?vo_w15) (w1:=(w13.setCell ⟨go6,(a0:Int).toNat,none⟩ (.int .i64 1))) ?hg ?ho ?hn ?hr ?_;(case ho=>rfl);(case hg=>rfl);(case hn=>rfl);(case hr=>first|(go_simp;done)|(go_simp;rfl));intro w15 hw;have hg:w13.grownBy w15 (some go6):=(by rw [hw];exact HP14.2);have hp_:Kd.R (Kd.int .i64) 2 w15 w.heap.size (fun _=>True) (.slice (some ⟨go6,0,none⟩) y215.length co6) y219:=(by rw [hw,Ny219.1];exact HP14.1);clear HP14;have n0_:=qAm (hp_);have n1_:=qAm ((by rw [hw];exact below_set (HB.1) GB6.1:Below w.heap.size w w15));clear HO217;clear HB;have HO217:=n0_;have HB:=n1_;clear n0_ n1_;clear hg hw hp_));try simp only [Act.put,qSa,qSc,qSb]
      go_loopg [3,4] k (fun kq v3 v4 w'=>∃(x3_1:List Int) (x4_1:Int),v4=.int .i64 x4_1∧Aside0 (spec_l01Cyclotomic.l0 kq a0 x3_1 x4_1=some r)∧Aside0 (kq≤k)∧Aside0 (Kd.R (Kd.int .i64) 2 w' w.heap.size (fun _=>True) v3 x3_1)∧Aside0 (Below w.heap.size w w'))
      case atStart=>exact⟨(y219),(1),qB216,H',⟨Nat.le_refl _⟩,⟨by (with_reducible repeat(first|apply Kd.R_alloc|apply Kd.R_drewN|apply Kd.R_drew));exact HO217.1⟩,⟨by repeat(first|(with_reducible first|exact HB.1|apply below_alloc|apply pw_below_drewN|apply below_drew1)|exact HB.1)⟩⟩
      case round=>
       clear H';try clear p2
       try clear c3
       try clear c3b0
       try clear c3b1
       try clear c4
       try clear c4b0
       try clear c4b1
       try clear c5
       try clear c5b0
       try clear c5b1
       try clear p6
       try clear q6
       try clear hx6
       try clear qi6
       try clear hf6
       try clear c7
       try clear c7b0
       try clear c8
       try clear c8b0
       try clear p9
       try clear q9
       try clear hx9
       try clear hf9
       try clear hx6_0
       try clear hx9_0
       try clear p6
       try clear p9
       try clear q6
       try clear q9
       obtain⟨x3_1,x4_1,rfl,HA,HK1,HO_3,HB⟩:=hrel;cases gk with
       |zero=>exact absurd HA.1 (by simp [spec_l01Cyclotomic.l0])
       |succ k1=>
        have H:=HA.1;clear HA;simp only [spec_l01Cyclotomic.l0] at H
        by_cases c16:x4_1<a0
        ·rw [if_pos c16] at H;have c16b0:decide (x4_1<a0)=true:=decide_eq_true c16;clear c16
         by_cases c17:x4_1=0
         ·rw [if_pos c17] at H;exact absurd H (by simp)
         ·rw [if_neg c17] at H;have c17b0:(x4_1==0)=false:=beq_eq_false_iff_ne.mpr c17;have c17b1:(x4_1 !=0)=true:=bne_iff_ne.mpr c17
          by_cases c18:(Int.tmod a0 x4_1)=0
          ·rw [if_pos c18] at H;have c18b0:((Int.tmod a0 x4_1)==0)=true:=beq_iff_eq.mpr c18;have c18b1:((Int.tmod a0 x4_1) !=0)=false:=bne_eq_false_iff_eq.mpr c18;clear c18;replace H:=qOb H;obtain⟨t220,A190,H⟩:=H;replace H:((spec_l01Quotient.f k1 x3_1 t220).bind fun t223=>(spec_l01Cyclotomic.l0 k1 a0 t223 (wrap64 (x4_1+1))))=some r:=H;have A19:=qAm A190;clear A190;replace H:=qOb H;obtain⟨t223,A200,H⟩:=H;replace H:(spec_l01Cyclotomic.l0 k1 a0 t223 (wrap64 (x4_1+1)))=some r:=H;have A20:=qAm A200;clear A200;have H':=qAm H;clear H;go_wp2_with (first|((with_reducible refine gate_callee (f:=76) rfl ?_);refine goesL_ (some 24) rfl rfl Try.func76 (by kernel_rfl) rfl #[.int .i64 x4_1] rfl qB108 ?_;(with_reducible refine(ih k1 (by have:=HK1.1;omega) x4_1 t220 _ A19.1).mono ?_);rintro e w21 ⟨v221,rfl,ho0,hb⟩;refine⟨_,rfl,?_⟩;have n0_:=qAm (Kd.R_elder' qB205 (Kd.R_base ho0) hb);have n1_:=qAm (Kd.R_lower (Kd.R_new' ho0 (Kd.R_lt qB205)) (below_size qB111));have n2_:=qAm (below_step qB111 hb);clear HO_3;clear HB;have HO_3:=n0_;have HO222:=n1_;have HB:=n2_;clear n0_ n1_ n2_;(try clear hb);(try clear hb2);(try clear hk);(try clear hi);(try clear ho0);obtain⟨Ao22,co22,eo22⟩:=Kd.R_slice HO_3.1;subst eo22;obtain⟨Ao23,co23,eo23⟩:=Kd.R_slice HO222.1;subst eo23)|((with_reducible refine gate_callee (f:=81) rfl ?_);refine goesL_ (some 25) rfl rfl Try.func81 (by kernel_rfl) rfl #[.slice Ao22 x3_1.length co22,.slice Ao23 t220.length co23] rfl qB108 ?_;(with_reducible refine(spec_l01Quotient.calls k1 _ _ x3_1 _ _ t220 t223 _ ?side1 ?side2 ?side3 ?side4 A20.1).mono ?_);(case side1=>repeat(first|exact(Kd.R_reads' HO_3.1).2.2|(with_reducible refine Kd.C_alloc ?_ _)|(with_reducible refine Kd.C_drewN ?_ _)|(with_reducible refine Kd.C_drew ?_)));(case side2=>exact(Kd.R_reads' HO_3.1).2.1);(case side3=>repeat(first|exact(Kd.R_reads' HO222.1).2.2|(with_reducible refine Kd.C_alloc ?_ _)|(with_reducible refine Kd.C_drewN ?_ _)|(with_reducible refine Kd.C_drew ?_)));(case side4=>exact(Kd.R_reads' HO222.1).2.1);rintro e w24 ⟨v224,rfl,ho0,hb⟩;refine⟨_,rfl,?_⟩;have n0_:=qAm (Kd.R_elder' qB205 (Kd.R_base ho0) hb);have n1_:=qAm (Kd.R_elder' qB180 (Kd.R_base ho0) hb);have n2_:=qAm (Kd.R_lower (Kd.R_new' (Kd.R_new' ho0 (Kd.R_lt qB205)) (Kd.R_lt qB180)) (below_size qB111));have n3_:=qAm (below_step qB111 hb);clear HO_3;clear HO222;clear HB;have HO_3:=n0_;have HO222:=n1_;have HO225:=n2_;have HB:=n3_;clear n0_ n1_ n2_ n3_;(try clear hb);(try clear hb2);(try clear hk);(try clear hi);(try clear ho0)))
           (first|go_roundg k1|((try simp only [add_plain] at *);go_roundg k1))
           case measure=>have:=HK1.1;omega
           case rel=>exact⟨(t223),(wrap64 (x4_1+1)),qB216,H',⟨by have:=HK1.1;omega⟩,⟨by (with_reducible repeat(first|apply Kd.R_alloc|apply Kd.R_drewN|apply Kd.R_drew));exact Kd.R_mono HO225.1 (fun _ hk=>trivial)⟩,⟨by repeat(first|(with_reducible first|exact HB.1|apply below_alloc|apply pw_below_drewN|apply below_drew1)|exact HB.1)⟩⟩
          ·rw [if_neg c18] at H;have c18b0:((Int.tmod a0 x4_1)==0)=false:=beq_eq_false_iff_ne.mpr c18;have c18b1:((Int.tmod a0 x4_1) !=0)=true:=bne_iff_ne.mpr c18;have H':=qAm H;clear H;go_wp2
           (first|go_roundg k1|((try simp only [add_plain] at *);go_roundg k1))
           case measure=>have:=HK1.1;omega
           case rel=>exact⟨(x3_1),(wrap64 (x4_1+1)),qB216,H',⟨by have:=HK1.1;omega⟩,⟨by (with_reducible repeat(first|apply Kd.R_alloc|apply Kd.R_drewN|apply Kd.R_drew));exact HO_3.1⟩,⟨by repeat(first|(with_reducible first|exact HB.1|apply below_alloc|apply pw_below_drewN|apply below_drew1)|exact HB.1)⟩⟩
        ·rw [if_neg c16] at H;have c16b0:decide (x4_1<a0)=false:=decide_eq_false c16;clear c16;obtain rfl:=Option.some.inj H;go_wp2;go_ret;exact⟨_,by first|rfl|(simp [errW_none,errW_some] <;> rfl)|(simp only [← hji2];first|rfl|(simp [errW_none,errW_some] <;> rfl))|(simp [*,errW_none,errW_some] <;> rfl),by (with_reducible repeat(first|apply Kd.R_alloc|apply Kd.R_drewN|apply Kd.R_drew));exact HO_3.1,by repeat(first|(with_reducible first|exact HB.1|apply below_alloc|apply pw_below_drewN|apply below_drew1)|exact HB.1)⟩
     ·rw [if_neg c8] at H;exact absurd H (by simp)
    ·rw [if_neg c7] at H;exact absurd H (by simp)
   ·rw [if_neg c5] at H;exact absurd H (by simp)
  ·rw [if_neg c4] at H;exact absurd H (by simp)
 ·rw [if_neg c3] at H;exact absurd H (by simp)

/-! ### spec_l01Zero: function 78 -/
def spec_l01Zero.f (k:Nat) (a0:Int):Option (Int×List Int):=(spec_l01Phi.f k a0).bind fun t227=>(if 0≤t227 then (if (t227:Int).toNat≤35184372088832 then (some (a0,(List.replicate (t227:Int).toNat 0))) else (none)) else (none))
theorem spec_l01Zero.mono:∀a0 k,LeO (spec_l01Zero.f k a0) (spec_l01Zero.f (k+1) a0):=by
 intro a0 k;unfold spec_l01Zero.f;repeat' first
   |(with_reducible exact spec_l01Phi.mono _ _)
   |(with_reducible exact LeO.refl _)
   |(with_reducible exact LeO.none _)
   |(with_reducible refine LeO.ite ?_ ?_)
   |(with_reducible refine LeO.bind ?_ (fun _=>?_))
   |exact spec_l01Phi.mono _ _
   |exact LeO.none _
   |refine LeO.ite ?_ ?_
   |refine LeO.bind ?_ (fun _=>?_)
set_option maxHeartbeats 8000000 in
set_option maxRecDepth 100000 in
theorem spec_l01Zero.calls (k:Nat) (a0:Int) (r1:Int) (r2:List Int) (w:World) (h:spec_l01Zero.f k a0=some (r1,r2)):
  Calls Try.prog 78 #[.int .i64 a0] w fun e w'=>∃v1_:Value,e=.returned (.agg #[.int .i64 r1,v1_])∧Kd.R (Kd.int .i64) 2 w' w.heap.size (fun _=>True) v1_ r2∧Below w.heap.size w w':=by
 have hu26:=Try.underlying26;have HB:=qAm (Below.refl w.heap.size w);have H:((spec_l01Phi.f k a0).bind fun t227=>(if 0≤t227 then (if (t227:Int).toNat≤35184372088832 then (some (a0,(List.replicate (t227:Int).toNat 0))) else (none)) else (none)))=some (r1,r2):=h;clear h;replace H:=qOb H;obtain⟨t227,A20,H⟩:=H;replace H:(if 0≤t227 then (if (t227:Int).toNat≤35184372088832 then (some (a0,(List.replicate (t227:Int).toNat 0))) else (none)) else (none))=some (r1,r2):=H;have A2:=qAm A20;clear A20
 by_cases c3:0≤t227
 ·rw [if_pos c3] at H;have c3b0:=eq_true c3;have c3b1:decide (0≤t227)=true:=decide_eq_true c3;clear c3
  by_cases c4:(t227:Int).toNat≤35184372088832
  ·rw [if_pos c4] at H;have c4b0:=eq_true c4;have c4b1:decide ((t227:Int).toNat≤35184372088832)=true:=decide_eq_true c4;clear c4;obtain⟨y228,hy228⟩:∃y_:List Int,y_=(List.replicate (t227:Int).toNat 0):=⟨_,rfl⟩
   replace H:(some (a0,y228))=some (r1,r2):=by first|(rw [hy228];with_reducible exact H)|(have H2_:=(Option.bind_some _ _).symm.trans H;rw [hy228];with_reducible exact H2_)|(have H2_:=(Option.bind_some _ _).symm.trans H;with_reducible exact H2_)|with_reducible exact H|(rw [hy228];exact H)|exact H
   have Ny228:=qAm hy228;clear hy228;simp only [Option.some.injEq,Prod.mk.injEq] at H;obtain⟨rfl,rfl⟩:=H;go_enter Try.func78,Try.ntmps78;go_wp2_with (first|((with_reducible refine gate_dst (N:=2) rfl ?_);refine box_event qL (N:=2) qL (cs:=#[.int .i64 0,.slice none 0 0]) (t:=26) qR ?_;intro gb226 hg w5 hbox hb;have n0_:=qAm (below_step qB111 hb);have n1_:=qAm (hbox);have n2_:=qAm ((by rw [hg];exact(below_size qB111):w.heap.size≤gb226));have n3_:=qAm ((by rw [hg];exact(below_size qB111):w.heap.size≤gb226));clear HB;have HB:=n0_;have BK226:=n1_;have GW226:=n2_;have GE226:=n3_;clear n0_ n1_ n2_ n3_;clear hb hbox hg)|((with_reducible refine gate_callee (f:=71) rfl ?_);refine goesL_ (some 5) rfl rfl Try.func71 (by kernel_rfl) rfl #[.int .i64 a0] rfl qB108 ?_;(with_reducible refine(spec_l01Phi.calls k a0 t227 _ A2.1).mono ?_);rintro e w6 ⟨rfl,hb⟩;refine⟨_,rfl,?_⟩;have n0_:=qAm (blk_below (g:=gb226) (o:=.cells #[.int .i64 0,.slice none 0 0] 26 (0,0)) qB127 hb);have n1_:=qAm (below_step qB88 hb);clear BK226;clear HB;have BK226:=n0_;have HB:=n1_;clear n0_ n1_;(try clear hb);(try clear hb2);(try clear hk);(try clear hi))|((with_reducible refine gate_dst (N:=6) rfl ?_);refine Kd.R_make (Kd.int .i64) _ 2 rfl (N:=6) rfl 22 _ _ rfl t227 rfl rfl Try.underlying22 (.int .i64 0) 8 info2 rfl (by decide) (by omega) 0 (ok:=fun _=>True) (okp:=fun _=>True) rfl (fun _ hk=>hk) trivial (of_decide_eq_true qB215) (Nat.le_trans (Nat.mul_le_mul_right _ (of_decide_eq_true qB215:t227.toNat≤35184372088832)) (by omega)) (Below.refl _ _) (Nat.le_refl _) ?_;intro v229 w7 ho8 hb hg_ hnew_;clear hg_ hnew_;(first|rw [← Ny228.1] at ho8|(simp only [Int.reduceToNat] at ho8;rw [← Ny228.1] at ho8));have n0_:=qAm (Kd.R_lower ho8 (below_size qB88));have n1_:=qAm (blk_below (g:=gb226) (o:=.cells #[.int .i64 0,.slice none 0 0] 26 (0,0)) qB127 hb);have n2_:=qAm (below_step qB88 hb);clear BK226;clear HB;have HO230:=n0_;have BK226:=n1_;have HB:=n2_;clear n0_ n1_ n2_;clear hb ho8;obtain⟨Ao9,co9,eo9⟩:=Kd.R_slice HO230.1;subst eo9;have hcz10_0:w7.cell? ⟨gb226,0,none⟩=some (.int .i64 0):=(blk_cell BK226.1 0).trans rfl;have hcz10_1:w7.cell? ⟨gb226,1,none⟩=some (.slice none 0 0):=(blk_cell BK226.1 1).trans rfl;have hfz10_0:=blk_frozen BK226.1 0;have hfz10_1:=blk_frozen BK226.1 1));refine bodyPost_ret (results_cell_row rfl _ _ gb226 26 #[.int .i64 a0,.slice Ao9 y228.length co9] (0,0) _ rfl (by (with_reducible repeat(first|refine blk_drewN ?_ _|refine blk_drew ?_|refine blk_alloc ?_ _));refine blk_put (cs:=#[.int .i64 a0,.slice none 0 0]) ?_ 1 _ rfl;(with_reducible repeat(first|refine blk_drewN ?_ _|refine blk_drew ?_|refine blk_alloc ?_ _));refine blk_put (cs:=#[.int .i64 0,.slice none 0 0]) ?_ 0 _ rfl;(with_reducible repeat(first|refine blk_drewN ?_ _|refine blk_drew ?_|refine blk_alloc ?_ _));exact BK226.1) Try.underlying26 rfl (by kernel_rfl)) rfl ?_;exact⟨_,by first|rfl|(simp [errW_none,errW_some] <;> rfl)|(simp [*,errW_none,errW_some] <;> rfl),by (with_reducible repeat(first|apply Kd.R_alloc|apply Kd.R_drewN|apply Kd.R_drew));exact Kd.R_mono (Kd.R_far (p:=⟨gb226,1,none⟩) (Kd.R_far (p:=⟨gb226,0,none⟩) (Kd.R_types HO230.1 BK226.1 (by decide)) (fun _ hk=>hk.2) (.int .i64 a0)) (fun _ hk=>hk.2) (.slice Ao9 y228.length co9)) (fun _ hk=>trivial),by repeat(first|(with_reducible first|exact HB.1|apply below_alloc|apply pw_below_drewN|apply below_drew1|refine below_set ?_ GE226.1)|exact HB.1)⟩
  ·rw [if_neg c4] at H;exact absurd H (by simp)
 ·rw [if_neg c3] at H;exact absurd H (by simp)

end Go.Proofs.Ytejpliodhnglbaa.PFnExactCubicSymbol
