/- The functions that the law reaches, as plain functions, each with the proof that the program comes to it; no condition. Written by a program of this session (wip/mp.py) over the printing of the kit; what is marked HAND is told by hand. -/
import Derived.Test.YtefhabkikaadiaaPFnExactPeriodPolynomialx0
import Derived.Test.YtefhabkikaadiaaPFnExactPeriodPolynomialx1
import Derived.Test.YtefhabkikaadiaaPFnExactPeriodPolynomialx3
namespace Go.Proofs.Ytefhabkikaadiaa.PFnExactPeriodPolynomial
open Go.RowKit Go.Proofs.YtefhabkikaadiaaW.PrintWords Go.Proofs.YtefhabkikaadiaaW.PrintLast Go.Proofs.YtefhabkikaadiaaW.PrintMore
attribute [local go_sem] max2_int min2_int max_two min_two max_three min_three max_four min_four   -- for this text's walks alone
set_option linter.unusedVariables false
set_option linter.unusedSimpArgs false

/-! ### spec_l06Polynomial: function 80 -/
mutual
def spec_l06Polynomial.l0:Nat→Int→Int→List Int→List Int→List Int→Int→Option (List Int)
  |0,_,_,_,_,_,_=>none
  |k+1,x0,x1,x5,x6,x7,x8=>if x8≤x1 then (spec_l06Polynomial.l1 k x0 x1 x5 x6 x7 x8 0 0) else (spec_l06Polynomial.l2 k x1 x5 (([1]:List Int)) 1)
def spec_l06Polynomial.l1:Nat→Int→Int→List Int→List Int→List Int→Int→Int→Int→Option (List Int)
  |0,_,_,_,_,_,_,_,_=>none
  |k+1,x0,x1,x5,x6,x7,x8,x9,x10=>if x10<x1 then (if 0≤x10 then (if x10<(x6.length:Int) then (spec_l06Polynomial.l1 k x0 x1 x5 x6 x7 x8 (wrap64 (x9 - (rd x6 x10))) (wrap64 (x10+1))) else (none)) else (none)) else (if x5.length<17592186044416 then ((some (x5 ++ [x9]:List Int)).bind fun y171=>(if x8<x1 then ((spec_l06Times.f k x0 x1 x6 x7).bind fun t174=>(spec_l06Polynomial.l0 k x0 x1 y171 t174 x7 (wrap64 (x8+1)))) else (spec_l06Polynomial.l0 k x0 x1 y171 x6 x7 (wrap64 (x8+1))))) else (none))
def spec_l06Polynomial.l2:Nat→Int→List Int→List Int→Int→Option (List Int)
  |0,_,_,_,_=>none
  |k+1,x1,x5,x11,x12=>if x12≤x1 then (spec_l06Polynomial.l3 k x1 x5 x11 x12 0 1) else (spec_l06Polynomial.l4 k x11 (([]:List Int)) x1)
def spec_l06Polynomial.l3:Nat→Int→List Int→List Int→Int→Int→Int→Option (List Int)
  |0,_,_,_,_,_,_=>none
  |k+1,x1,x5,x11,x12,x13,x14=>if x14≤x12 then (if 0≤(wrap64 (x14 - 1)) then (if (wrap64 (x14 - 1))<(x5.length:Int) then (if 0≤(wrap64 (x12 - x14)) then (if (wrap64 (x12 - x14))<(x11.length:Int) then (spec_l06Polynomial.l3 k x1 x5 x11 x12 (wrap64 (x13 - (wrap64 ((rd x5 (wrap64 (x14 - 1)))*(rd x11 (wrap64 (x12 - x14))))))) (wrap64 (x14+1))) else (none)) else (none)) else (none)) else (none)) else (if x12=0 then (none) else (if x11.length<17592186044416 then (spec_l06Polynomial.l2 k x1 x5 (x11 ++ [wrap64 (Int.tdiv x13 x12)]) (wrap64 (x12+1))) else (none)))
def spec_l06Polynomial.l4:Nat→List Int→List Int→Int→Option (List Int)
  |0,_,_,_=>none
  |k+1,x11,x15,x16=>if x16≥0 then (if 0≤x16 then (if x16<(x11.length:Int) then (if x15.length<17592186044416 then (spec_l06Polynomial.l4 k x11 (x15 ++ [rd x11 x16]) (wrap64 (x16 - 1))) else (none)) else (none)) else (none)) else (some x15)
end
def spec_l06Polynomial.f (k:Nat) (a0:Int) (a1:Int):Option (List Int):=if 0≤a1 then (if (a1:Int).toNat≤35184372088832 then ((some (List.replicate (a1:Int).toNat 0:List Int)).bind fun y163=>(if 0<(y163.length:Int) then ((some (y163.set (0:Int).toNat 1:List Int)).bind fun y166=>((spec_l01Own.f y166).bind fun t167=>(spec_l06Polynomial.l0 k a0 a1 (([]:List Int)) y166 t167 1))) else (none))) else (none)) else (none)
theorem spec_l06Polynomial.mono_l:∀k,(∀y0 y1 y2 y3 y4 y5,LeO (spec_l06Polynomial.l0 k y0 y1 y2 y3 y4 y5) (spec_l06Polynomial.l0 (k+1) y0 y1 y2 y3 y4 y5))∧(∀y0 y1 y2 y3 y4 y5 y6 y7,LeO (spec_l06Polynomial.l1 k y0 y1 y2 y3 y4 y5 y6 y7) (spec_l06Polynomial.l1 (k+1) y0 y1 y2 y3 y4 y5 y6 y7))∧(∀y0 y1 y2 y3,LeO (spec_l06Polynomial.l2 k y0 y1 y2 y3) (spec_l06Polynomial.l2 (k+1) y0 y1 y2 y3))∧(∀y0 y1 y2 y3 y4 y5,LeO (spec_l06Polynomial.l3 k y0 y1 y2 y3 y4 y5) (spec_l06Polynomial.l3 (k+1) y0 y1 y2 y3 y4 y5))∧(∀y0 y1 y2,LeO (spec_l06Polynomial.l4 k y0 y1 y2) (spec_l06Polynomial.l4 (k+1) y0 y1 y2))
  |0=>⟨fun _ _ _ _ _ _ r h=>by simp [spec_l06Polynomial.l0] at h,fun _ _ _ _ _ _ _ _ r h=>by simp [spec_l06Polynomial.l1] at h,fun _ _ _ _ r h=>by simp [spec_l06Polynomial.l2] at h,fun _ _ _ _ _ _ r h=>by simp [spec_l06Polynomial.l3] at h,fun _ _ _ r h=>by simp [spec_l06Polynomial.l4] at h⟩
  |k+1=>by
    obtain⟨ih0,ih1,ih2,ih3,ih4⟩:=spec_l06Polynomial.mono_l k;refine⟨?_,?_,?_,?_,?_⟩
    · intro y0 y1 y2 y3 y4 y5
      unfold spec_l06Polynomial.l0;repeat' first
      |(with_reducible exact ih0 _ _ _ _ _ _)
      |(with_reducible exact ih1 _ _ _ _ _ _ _ _)
      |(with_reducible exact ih2 _ _ _ _)
      |(with_reducible exact ih3 _ _ _ _ _ _)
      |(with_reducible exact ih4 _ _ _)
      |(with_reducible exact spec_l06Times.mono _ _ _ _ _)
      |(with_reducible exact LeO.refl _)
      |(with_reducible exact LeO.none _)
      |(with_reducible refine LeO.ite ?_ ?_)
      |(with_reducible refine LeO.bind ?_ (fun _=>?_))
      |exact ih0 _ _ _ _ _ _
      |exact ih1 _ _ _ _ _ _ _ _
      |exact ih2 _ _ _ _
      |exact ih3 _ _ _ _ _ _
      |exact ih4 _ _ _
      |exact spec_l06Times.mono _ _ _ _ _
      |exact LeO.none _
      |refine LeO.ite ?_ ?_
      |refine LeO.bind ?_ (fun _=>?_)
    · intro y0 y1 y2 y3 y4 y5 y6 y7
      unfold spec_l06Polynomial.l1;repeat' first
      |(with_reducible exact ih0 _ _ _ _ _ _)
      |(with_reducible exact ih1 _ _ _ _ _ _ _ _)
      |(with_reducible exact ih2 _ _ _ _)
      |(with_reducible exact ih3 _ _ _ _ _ _)
      |(with_reducible exact ih4 _ _ _)
      |(with_reducible exact spec_l06Times.mono _ _ _ _ _)
      |(with_reducible exact LeO.refl _)
      |(with_reducible exact LeO.none _)
      |(with_reducible refine LeO.ite ?_ ?_)
      |(with_reducible refine LeO.bind ?_ (fun _=>?_))
      |exact ih0 _ _ _ _ _ _
      |exact ih1 _ _ _ _ _ _ _ _
      |exact ih2 _ _ _ _
      |exact ih3 _ _ _ _ _ _
      |exact ih4 _ _ _
      |exact spec_l06Times.mono _ _ _ _ _
      |exact LeO.none _
      |refine LeO.ite ?_ ?_
      |refine LeO.bind ?_ (fun _=>?_)
    · intro y0 y1 y2 y3
      unfold spec_l06Polynomial.l2;repeat' first
      |(with_reducible exact ih0 _ _ _ _ _ _)
      |(with_reducible exact ih1 _ _ _ _ _ _ _ _)
      |(with_reducible exact ih2 _ _ _ _)
      |(with_reducible exact ih3 _ _ _ _ _ _)
      |(with_reducible exact ih4 _ _ _)
      |(with_reducible exact spec_l06Times.mono _ _ _ _ _)
      |(with_reducible exact LeO.refl _)
      |(with_reducible exact LeO.none _)
      |(with_reducible refine LeO.ite ?_ ?_)
      |(with_reducible refine LeO.bind ?_ (fun _=>?_))
      |exact ih0 _ _ _ _ _ _
      |exact ih1 _ _ _ _ _ _ _ _
      |exact ih2 _ _ _ _
      |exact ih3 _ _ _ _ _ _
      |exact ih4 _ _ _
      |exact spec_l06Times.mono _ _ _ _ _
      |exact LeO.none _
      |refine LeO.ite ?_ ?_
      |refine LeO.bind ?_ (fun _=>?_)
    · intro y0 y1 y2 y3 y4 y5
      unfold spec_l06Polynomial.l3;repeat' first
      |(with_reducible exact ih0 _ _ _ _ _ _)
      |(with_reducible exact ih1 _ _ _ _ _ _ _ _)
      |(with_reducible exact ih2 _ _ _ _)
      |(with_reducible exact ih3 _ _ _ _ _ _)
      |(with_reducible exact ih4 _ _ _)
      |(with_reducible exact spec_l06Times.mono _ _ _ _ _)
      |(with_reducible exact LeO.refl _)
      |(with_reducible exact LeO.none _)
      |(with_reducible refine LeO.ite ?_ ?_)
      |(with_reducible refine LeO.bind ?_ (fun _=>?_))
      |exact ih0 _ _ _ _ _ _
      |exact ih1 _ _ _ _ _ _ _ _
      |exact ih2 _ _ _ _
      |exact ih3 _ _ _ _ _ _
      |exact ih4 _ _ _
      |exact spec_l06Times.mono _ _ _ _ _
      |exact LeO.none _
      |refine LeO.ite ?_ ?_
      |refine LeO.bind ?_ (fun _=>?_)
    · intro y0 y1 y2
      unfold spec_l06Polynomial.l4;repeat' first
      |(with_reducible exact ih0 _ _ _ _ _ _)
      |(with_reducible exact ih1 _ _ _ _ _ _ _ _)
      |(with_reducible exact ih2 _ _ _ _)
      |(with_reducible exact ih3 _ _ _ _ _ _)
      |(with_reducible exact ih4 _ _ _)
      |(with_reducible exact spec_l06Times.mono _ _ _ _ _)
      |(with_reducible exact LeO.refl _)
      |(with_reducible exact LeO.none _)
      |(with_reducible refine LeO.ite ?_ ?_)
      |(with_reducible refine LeO.bind ?_ (fun _=>?_))
      |exact ih0 _ _ _ _ _ _
      |exact ih1 _ _ _ _ _ _ _ _
      |exact ih2 _ _ _ _
      |exact ih3 _ _ _ _ _ _
      |exact ih4 _ _ _
      |exact spec_l06Times.mono _ _ _ _ _
      |exact LeO.none _
      |refine LeO.ite ?_ ?_
      |refine LeO.bind ?_ (fun _=>?_)
theorem spec_l06Polynomial.mono:∀a0 a1 k,LeO (spec_l06Polynomial.f k a0 a1) (spec_l06Polynomial.f (k+1) a0 a1):=by
  intro a0 a1 k;obtain⟨ih0,ih1,ih2,ih3,ih4⟩:=spec_l06Polynomial.mono_l k;unfold spec_l06Polynomial.f;repeat' first
      |(with_reducible exact ih0 _ _ _ _ _ _)
      |(with_reducible exact ih1 _ _ _ _ _ _ _ _)
      |(with_reducible exact ih2 _ _ _ _)
      |(with_reducible exact ih3 _ _ _ _ _ _)
      |(with_reducible exact ih4 _ _ _)
      |(with_reducible exact spec_l06Times.mono _ _ _ _ _)
      |(with_reducible exact LeO.refl _)
      |(with_reducible exact LeO.none _)
      |(with_reducible refine LeO.ite ?_ ?_)
      |(with_reducible refine LeO.bind ?_ (fun _=>?_))
      |exact ih0 _ _ _ _ _ _
      |exact ih1 _ _ _ _ _ _ _ _
      |exact ih2 _ _ _ _
      |exact ih3 _ _ _ _ _ _
      |exact ih4 _ _ _
      |exact spec_l06Times.mono _ _ _ _ _
      |exact LeO.none _
      |refine LeO.ite ?_ ?_
      |refine LeO.bind ?_ (fun _=>?_)
def spec_l06Polynomial.T23:Bool×List (List Nat×List Nat):=(true,[([],[]),([],[]),([],[]),([2],[2]),([1,3],[1,3]),([4],[4]),([],[]),([],[]),([],[]),([7,8],[7,8]),([6,9],[6,9]),([10],[10]),([5,11],[5,11]),([0,12],[0,12]),([13,0,1,2,3,4,5,6,7,8,9,10,11,12,13],[0,13])])
def spec_l06Polynomial.B23:List Nat:=[0,0,0,4,14,30,0,0,0,384,960,1984,4094,8191,16383]
theorem spec_l06Polynomial.tab23:rtab .any (opsOf Try.f80 23)=spec_l06Polynomial.T23:=by kernel_rfl
theorem spec_l06Polynomial.bits23:waitsOk spec_l06Polynomial.T23.2 spec_l06Polynomial.B23=true:=by kernel_rfl
set_option maxHeartbeats 8000000 in
set_option maxRecDepth 100000 in
theorem spec_l06Polynomial.calls (k:Nat) (a0:Int) (a1:Int) (r:List Int) (w:World) (h:spec_l06Polynomial.f k a0 a1=some r):
    Calls Try.prog 80 #[.int .i64 a0,.int .i64 a1] w fun e w'=>∃v0_:Value,e=.returned (v0_)∧Kd.R (Kd.int .i64) 2 w' w.heap.size (fun _=>True) v0_ r∧Below w.heap.size w w':=by
  have HB:=qAm (Below.refl w.heap.size w);have H:(if 0≤a1 then (if (a1:Int).toNat≤35184372088832 then ((some (List.replicate (a1:Int).toNat 0:List Int)).bind fun y163=>(if 0<(y163.length:Int) then ((some (y163.set (0:Int).toNat 1:List Int)).bind fun y166=>((spec_l01Own.f y166).bind fun t167=>(spec_l06Polynomial.l0 k a0 a1 (([]:List Int)) y166 t167 1))) else (none))) else (none)) else (none))=some r:=h;clear h;obtain⟨y160,hy160⟩:∃y_:List Int,y_=(([]:List Int)):=⟨_,rfl⟩
  replace H:(if 0≤a1 then (if (a1:Int).toNat≤35184372088832 then ((some (List.replicate (a1:Int).toNat 0:List Int)).bind fun y163=>(if 0<(y163.length:Int) then ((some (y163.set (0:Int).toNat 1:List Int)).bind fun y166=>((spec_l01Own.f y166).bind fun t167=>(spec_l06Polynomial.l0 k a0 a1 y160 y166 t167 1))) else (none))) else (none)) else (none))=some r:=by first|(rw [hy160];with_reducible exact H)|(have H2_:=(Option.bind_some _ _).symm.trans H;rw [hy160];with_reducible exact H2_)|(have H2_:=(Option.bind_some _ _).symm.trans H;with_reducible exact H2_)|with_reducible exact H|(rw [hy160];exact H)|exact H
  have Ny160:=qAm hy160;clear hy160
  by_cases c3:0≤a1
  · rw [if_pos c3] at H
    have c3b0:=eq_true c3;have c3b1:decide (0≤a1)=true:=decide_eq_true c3;clear c3
    by_cases c4:(a1:Int).toNat≤35184372088832
    · rw [if_pos c4] at H
      have c4b0:=eq_true c4;have c4b1:decide ((a1:Int).toNat≤35184372088832)=true:=decide_eq_true c4;clear c4;obtain⟨y163,hy163⟩:∃y_:List Int,y_=(List.replicate (a1:Int).toNat 0):=⟨_,rfl⟩
      replace H:(if 0<(y163.length:Int) then ((some (y163.set (0:Int).toNat 1:List Int)).bind fun y166=>((spec_l01Own.f y166).bind fun t167=>(spec_l06Polynomial.l0 k a0 a1 y160 y166 t167 1))) else (none))=some r:=by first|(rw [hy163];with_reducible exact H)|(have H2_:=(Option.bind_some _ _).symm.trans H;rw [hy163];with_reducible exact H2_)|(have H2_:=(Option.bind_some _ _).symm.trans H;with_reducible exact H2_)|with_reducible exact H|(rw [hy163];exact H)|exact H
      have Ny163:=qAm hy163;clear hy163
      by_cases c5:0<(y163.length:Int)
      · rw [if_pos c5] at H
        have c5b0:decide (0<(y163.length:Int))=true:=decide_eq_true c5;have c5b1:decide (0<y163.length)=true:=decide_eq_true (by omega);clear c5;obtain⟨y166,hy166⟩:∃y_:List Int,y_=(y163.set (0:Int).toNat 1):=⟨_,rfl⟩
        replace H:((spec_l01Own.f y166).bind fun t167=>(spec_l06Polynomial.l0 k a0 a1 y160 y166 t167 1))=some r:=by first|(rw [hy166];with_reducible exact H)|(have H2_:=(Option.bind_some _ _).symm.trans H;rw [hy166];with_reducible exact H2_)|(have H2_:=(Option.bind_some _ _).symm.trans H;with_reducible exact H2_)|with_reducible exact H|(rw [hy166];exact H)|exact H
        have Ny166:=qAm hy166;clear hy166;replace H:=qOb H;obtain⟨t167,A70,H⟩:=H;replace H:(spec_l06Polynomial.l0 k a0 a1 y160 y166 t167 1)=some r:=H;have A7:=qAm A70;clear A70;have H':=qAm H;clear H;go_enter Try.func80,Try.ntmps80;try go_wp2
        have n0_:=qAm (below_drew1 HB.1);clear HB;have HB:=n0_;clear n0_;refine start_ (n:=5) (S:=fun w'=>True) (ds:=[]) #[false,false,false,false,false] (by kernel_rfl) rfl rfl trivial (fun hHeld=>?_);generalize w.drew=w8 at HB hHeld ⊢;refine pure_ (i:=1) (N:=some 18) (v:=?_) (a':=?_) #[false,true,false,false,false] rfl rfl (by kernel_rfl) (fun _ _ _ h=>h) (Or.inl ⟨by rfl,?_⟩) ?_ ?_;rotate_left
        · intro w'
          go_simp;with_reducible rfl
        rotate_left
        · simp only [Act.put,qSa,qSb,qSc,i64_w,i32_w]
          rfl
        refine join_ (σ:=Value×Value) 1 #[true,true,true,true,false] (fun s_=>[(17,s_.1),(19,s_.2),(5,s_.1)]) (fun s_ w'=>(Kd.R (Kd.int .i64) 2 w' w.heap.size (fun k_=>some k_≠(s_.2:Value).ownBlock) s_.1 y160)∧(Kd.R (Kd.int .i64) 2 w' w.heap.size (fun k_=>some k_≠(s_.1:Value).ownBlock) s_.2 y163)∧(Below w.heap.size w w')) ?_ ?_;rotate_left
        · intro hCont
          refine two_ (i:=0) (j:=2) (Ni:=some 17) (Nj:=some 19) #[true,true,false,false,false] #[false,true,true,false,false] rfl rfl rfl rfl (by kernel_rfl) (by decide) (by decide) (fun K hK=>?_) (fun K hK=>?_)
          · skip
            refine Kd.R_lit_step (Kd.int .i64) _ 2 ?hg (N:=17) ?hd (xs:=([]:List Int)) (inner:=[]) (ok:=fun _=>True) (okp:=fun _=>True) ?hr ?hp (fun _ hk=>hk) trivial (Below.refl _ _) (Nat.le_refl _) (by simp) ?_;(case hd=>rfl);(case hg=>rfl);(case hr=>first|(go_simp;done)|(go_simp;rfl));(case hp=>exact(Reps.none _ _));intro v161 w9 ho10 hb hg_ hnew_;clear hg_ hnew_
            (first|rw [← Ny160.1] at ho10|(simp only [Int.reduceToNat] at ho10;rw [← Ny160.1] at ho10))
            have n0_:=qAm (Kd.R_lower ho10 (below_size qB19));have n1_:=qAm (below_step qB19 hb);clear HB;have HO162:=n0_;have HB:=n1_;clear n0_ n1_ hb ho10;refine hK.out _ _ trivial (fun hHeld=>?_);clear hK K;refine norm_ (a':=?_) ?_ ?_;rotate_left
            · show Act.put _ (some 17) _=_
              simp only [Act.put,qSa,qSb,qSc,i64_w,i32_w];rfl
            refine pure_ (i:=3) (N:=some 5) (v:=?_) (a':=?_) #[true,true,false,true,false] rfl rfl (by kernel_rfl) (fun _ _ _ h=>h) (Or.inl ⟨by rfl,?_⟩) ?_ ?_;rotate_left
            · intro w'
              go_simp;with_reducible rfl
            rotate_left
            · simp only [Act.put,qSa,qSb,qSc,i64_w,i32_w]
              rfl
            refine one_ (i:=2) (N:=some 19) #[true,true,true,true,false] rfl rfl (by kernel_rfl) (by decide) (fun K hK=>?_);refine Kd.R_make_step (Kd.int .i64) _ 2 (by rfl) (N:=19) rfl 22 _ _ rfl a1 rfl rfl Try.underlying22 (.int .i64 0) 8 info2 rfl (by decide) (by omega) 0 (ok:=fun _=>True) (okp:=fun _=>True) rfl (fun _ hk=>hk) trivial (of_decide_eq_true qB46) (Nat.le_trans (Nat.mul_le_mul_right _ (of_decide_eq_true qB46:a1.toNat≤35184372088832)) (by omega)) (Below.refl _ _) (Nat.le_refl _) ?_;intro v164 w11 ho12 hb hg_ hnew_;clear hg_ hnew_
            (first|rw [← Ny163.1] at ho12|(simp only [Int.reduceToNat] at ho12;rw [← Ny163.1] at ho12))
            have n0_:=qAm (Kd.R_elder' qB28 (Kd.R_base ho12) hb);have n1_:=qAm (Kd.R_lower (Kd.R_new' ho12 (Kd.R_lt qB28)) (below_size qB19));have n2_:=qAm (below_step qB19 hb);clear HO162 HB;have HO162:=n0_;have HO165:=n1_;have HB:=n2_;clear n0_ n1_ n2_ hb ho12;refine hK.out _ _ trivial (fun hHeld=>?_);clear hK K;refine norm_ (a':=?_) ?_ ?_;rotate_left
            · show Act.put _ (some 19) _=_
              simp only [Act.put,qSa,qSb,qSc,i64_w,i32_w];rfl
            exact norm_ qB45 (hCont (v161,v164) _ ⟨qB17,qB18,qB19⟩)
          · skip
            refine Kd.R_make_step (Kd.int .i64) _ 2 (by rfl) (N:=19) rfl 22 _ _ rfl a1 rfl rfl Try.underlying22 (.int .i64 0) 8 info2 rfl (by decide) (by omega) 0 (ok:=fun _=>True) (okp:=fun _=>True) rfl (fun _ hk=>hk) trivial (of_decide_eq_true qB46) (Nat.le_trans (Nat.mul_le_mul_right _ (of_decide_eq_true qB46:a1.toNat≤35184372088832)) (by omega)) (Below.refl _ _) (Nat.le_refl _) ?_;intro v164 w9 ho10 hb hg_ hnew_;clear hg_ hnew_
            (first|rw [← Ny163.1] at ho10|(simp only [Int.reduceToNat] at ho10;rw [← Ny163.1] at ho10))
            have n0_:=qAm (Kd.R_lower ho10 (below_size qB19));have n1_:=qAm (below_step qB19 hb);clear HB;have HO165:=n0_;have HB:=n1_;clear n0_ n1_ hb ho10;refine hK.out _ _ trivial (fun hHeld=>?_);clear hK K;refine norm_ (a':=?_) ?_ ?_;rotate_left
            · show Act.put _ (some 19) _=_
              simp only [Act.put,qSa,qSb,qSc,i64_w,i32_w];rfl
            refine one_ (i:=0) (N:=some 17) #[true,true,true,false,false] rfl rfl (by kernel_rfl) (by decide) (fun K hK=>?_);refine Kd.R_lit_step (Kd.int .i64) _ 2 ?hg (N:=17) ?hd (xs:=([]:List Int)) (inner:=[]) (ok:=fun _=>True) (okp:=fun _=>True) ?hr ?hp (fun _ hk=>hk) trivial (Below.refl _ _) (Nat.le_refl _) (by simp) ?_;(case hd=>rfl);(case hg=>rfl);(case hr=>first|(go_simp;done)|(go_simp;rfl));(case hp=>exact(Reps.none _ _));intro v161 w11 ho12 hb hg_ hnew_;clear hg_ hnew_
            (first|rw [← Ny160.1] at ho12|(simp only [Int.reduceToNat] at ho12;rw [← Ny160.1] at ho12))
            have n0_:=qAm (Kd.R_elder' qB29 (Kd.R_base ho12) hb);have n1_:=qAm (Kd.R_lower (Kd.R_new' ho12 (Kd.R_lt qB29)) (below_size qB19));have n2_:=qAm (below_step qB19 hb);clear HO165 HB;have HO165:=n0_;have HO162:=n1_;have HB:=n2_;clear n0_ n1_ n2_ hb ho12;refine hK.out _ _ trivial (fun hHeld=>?_);clear hK K;refine norm_ (a':=?_) ?_ ?_;rotate_left
            · show Act.put _ (some 17) _=_
              simp only [Act.put,qSa,qSb,qSc,i64_w,i32_w];rfl
            refine pure_ (i:=3) (N:=some 5) (v:=?_) (a':=?_) #[true,true,true,true,false] rfl rfl (by kernel_rfl) (fun _ _ _ h=>h) (Or.inl ⟨by rfl,?_⟩) ?_ ?_;rotate_left
            · intro w'
              go_simp;with_reducible rfl
            rotate_left
            · simp only [Act.put,qSa,qSb,qSc,i64_w,i32_w]
              rfl
            exact norm_ qB45 (hCont (v161,v164) _ ⟨qB17,qB18,qB19⟩)
        rintro⟨v161,v164⟩ w13 ⟨h0_,h1_,h2_⟩;have n0_:Aside0 (Kd.R (Kd.int .i64) 2 w13 w.heap.size (fun k_=>some k_≠(v164:Value).ownBlock) v161 y160):=⟨h0_⟩
        have n1_:Aside0 (Kd.R (Kd.int .i64) 2 w13 w.heap.size (fun k_=>some k_≠(v161:Value).ownBlock) v164 y163):=⟨h1_⟩
        have n2_:Aside0 (Below w.heap.size w w13):=⟨h2_⟩
        clear HB h0_ h1_ h2_;have HO162:=n0_;have HO165:=n1_;have HB:=n2_;clear n0_ n1_ n2_;have hHeld:=trivial;refine norm_ (a':=?_) ?_ ?_;rotate_left
        · simp only [putAll,Act.put,qSa,qSb,qSc]
          rfl
        refine pure_ (i:=4) (N:=some 6) (v:=?_) (a':=?_) #[true,true,true,true,true] rfl rfl (by kernel_rfl) (fun _ _ _ h=>h) (Or.inl ⟨by rfl,?_⟩) ?_ ?_;rotate_left
        · intro w'
          go_simp;with_reducible rfl
        rotate_left
        · simp only [Act.put,qSa,qSb,qSc,i64_w,i32_w]
          rfl
        refine done_ (by kernel_rfl) ?_;have p6:0≤(0:Int):=(by omega)
        have q6:(0:Int)<((y163.length:Int):Int):=of_decide_eq_true qB46;have qi6:(0<y163.length)=True:=eq_true (by omega);obtain⟨go6,co6,eo6,gb6,gl6,cl6,HG6⟩:=Kd.R_form HO165.1 (by omega)
        (first|cases eo6|(injection eo6 with ea_ en_ ec_;(first|subst ea_|(injection ea_ with ea_;subst ea_));subst ec_;clear en_))
        have GB6:=qAm gb6;have GG6:=qAm HG6;clear gb6 gl6 HG6;obtain⟨hx6_0,hf6_0⟩:=Kd.R_celln 0 HO165.1 (0:Int) p6 q6
        (try rw [show((0:Int)).toNat=0 from rfl] at hx6_0)
        (try simp only [Nat.reduceMul,Nat.zero_mul,Nat.zero_add,Nat.reduceAdd] at hx6_0)
        (try rw [show((0:Int)).toNat=0 from rfl] at hf6_0)
        (try simp only [Nat.reduceMul,Nat.zero_mul,Nat.zero_add,Nat.reduceAdd] at hf6_0)
        replace p6:=eq_true p6;replace q6:=eq_true q6;obtain⟨hy14_,hz14_⟩:=Kd.R_celln 0 HO165.1 (0:Int) (by omega) (of_decide_eq_true qB46)
        (try simp only [Int.reduceToNat,Int.toNat_zero,Int.toNat_ofNat,Nat.reduceMul,Nat.zero_mul,Nat.zero_add] at hy14_ hz14_)
        (try rw [show((0:Int)).toNat=0 from rfl] at hy14_)
        (try rw [show((0:Int)).toNat=0 from rfl] at hz14_)
        have HP14:=Kd.R_putg HO165.1 (0:Int) 1;try go_wp2_with (first|((with_reducible refine gate_store (t:=2) (p:=21) rfl ?_);refine store_event (t:=2) (p:=21) (v:=?vo_w15) (w1:=(w13.setCell ⟨go6,(0:Int).toNat,none⟩ (.int .i64 1))) ?hg ?ho ?hn ?hr ?_;(case ho=>rfl);(case hg=>rfl);(case hn=>rfl);(case hr=>first|(go_simp;done)|(go_simp;rfl));intro w15 hw;have hg:w13.grownBy w15 (some go6):=(by rw [hw];exact HP14.2);have hp_:Kd.R (Kd.int .i64) 2 w15 w.heap.size (fun k_=>some k_≠(v161:Value).ownBlock) (.slice (some ⟨go6,0,none⟩) y163.length co6) y166:=(by rw [hw,Ny166.1];exact HP14.1);clear HP14;have n0_:=qAm (Kd.R_after (v:=(.slice (some ⟨go6,0,none⟩) y163.length co6)) (v1:=(.slice (some ⟨go6,0,none⟩) y163.length co6)) (ok:=(fun _=>True)) (by (with_reducible repeat(first|apply Kd.R_alloc|apply Kd.R_drewN|apply Kd.R_drew));exact Kd.R_mono HO162.1 (fun _ hk=>⟨trivial,hk⟩)) hg (.inl rfl));have n1_:=qAm (hp_);have n2_:=qAm ((by rw [hw];exact below_set (HB.1) GB6.1:Below w.heap.size w w15));clear HO162;clear HO165;clear HB;have HO162:=n0_;have HO165:=n1_;have HB:=n2_;clear n0_ n1_ n2_;clear hg hw hp_)|((with_reducible refine gate_callee (f:=119) rfl ?_);refine goesL_ (some 23) rfl rfl Try.func119 (by kernel_rfl) rfl #[.slice (some ⟨go6,0,none⟩) y166.length co6] rfl (by (try simp only [List.map_toArray,List.map_cons,List.map_nil]);first|done|(rw [show y166.length=y163.length from (Kd.R_reads' HO165.1).1.symm] <;> rfl)|rfl|(simp only [List.length_drop,List.length_take];rfl)) ?_;(with_reducible refine(spec_l01Own.calls _ _ y166 t167 _ ?side1 ?side2 A7.1).mono ?_);(case side1=>repeat(first|exact(Kd.R_reads' HO165.1).2.2|(with_reducible refine Kd.C_alloc ?_ _)|(with_reducible refine Kd.C_drewN ?_ _)|(with_reducible refine Kd.C_drew ?_)));(case side2=>rw [show y166.length=y163.length from (Kd.R_reads' HO165.1).1.symm];exact(Kd.R_reads' HO165.1).2.1);rintro e w16 ⟨v168,rfl,ho0,hb⟩;refine⟨_,rfl,?_⟩;have n0_:=qAm (Kd.R_elder' qB28 (Kd.R_base ho0) hb);have n1_:=qAm (Kd.R_elder' qB29 (Kd.R_base ho0) hb);have n2_:=qAm (Kd.R_lower (Kd.R_new' (Kd.R_new' ho0 (Kd.R_lt qB28)) (Kd.R_lt qB29)) (below_size qB19));have n3_:=qAm (below_step qB19 hb);clear HO162;clear HO165;clear HB;have HO162:=n0_;have HO165:=n1_;have HO169:=n2_;have HB:=n3_;clear n0_ n1_ n2_ n3_;(try clear hb);(try clear hb2);(try clear hk);(try clear hi);(try clear ho0)))
        try simp only [Act.put,qSa,qSc,qSb]
        go_loopg [5,6,8] k (fun kq v5 v6 v8 w'=>∃(x5_1:List Int) (x6_1:List Int) (x8_1:Int),v8=.int .i64 x8_1∧Aside0 (spec_l06Polynomial.l0 kq a0 a1 x5_1 x6_1 t167 x8_1=some r)∧Aside0 (kq≤k)∧Aside0 (Kd.R (Kd.int .i64) 2 w' w.heap.size (fun k_=>some k_≠(v6:Value).ownBlock∧some k_≠(v168:Value).ownBlock) v5 x5_1)∧Aside0 (Kd.R (Kd.int .i64) 2 w' w.heap.size (fun k_=>some k_≠(v5:Value).ownBlock∧some k_≠(v168:Value).ownBlock) v6 x6_1)∧Aside0 (Kd.R (Kd.int .i64) 2 w' w.heap.size (fun k_=>some k_≠(v5:Value).ownBlock∧some k_≠(v6:Value).ownBlock) v168 t167)∧Aside0 (Below w.heap.size w w'))
        case atStart=>exact⟨(y160),(y166),(1),qB47,H',⟨Nat.le_refl _⟩,⟨by (with_reducible repeat(first|apply Kd.R_alloc|apply Kd.R_drewN|apply Kd.R_drew));exact Kd.R_mono HO162.1 (fun _ hk=>⟨hk.1.2,hk.2⟩)⟩,⟨by (with_reducible repeat(first|apply Kd.R_alloc|apply Kd.R_drewN|apply Kd.R_drew));exact HO165.1⟩,⟨by (with_reducible repeat(first|apply Kd.R_alloc|apply Kd.R_drewN|apply Kd.R_drew));exact Kd.R_mono HO169.1 (fun _ hk=>⟨hk.1.2,hk.2⟩)⟩,⟨by repeat(first|(with_reducible first|exact HB.1|apply below_alloc|apply pw_below_drewN|apply below_drew1)|exact HB.1)⟩⟩
        case round=>
          clear H';try clear c1
          try clear p2
          try clear c3
          try clear c3b0
          try clear c3b1
          try clear c4
          try clear c4b0
          try clear c4b1
          try clear c5
          try clear c5b0
          try clear c5b1
          try clear p6
          try clear q6
          try clear hx6
          try clear qi6
          try clear hf6
          try clear c8
          try clear c11
          try clear hx6_0
          try clear p6
          try clear q6
          obtain⟨x5_1,x6_1,x8_1,rfl,HA,HK1,HO_5,HO_6,HO_7,HB⟩:=hrel;cases gk with
          |zero=>exact absurd HA.1 (by simp [spec_l06Polynomial.l0])
          |succ k1=>
            have H:=HA.1;clear HA;simp only [spec_l06Polynomial.l0] at H
            by_cases c17:x8_1≤a1
            · rw [if_pos c17] at H
              have c17b0:decide (x8_1≤a1)=true:=decide_eq_true c17;clear c17;have H':=qAm H;clear H;go_wp2;try simp only [Act.put,qSa,qSc,qSb]
              go_loopg [9,10] k1 (fun kq v9 v10 w'=>∃(x9_2:Int) (x10_2:Int),v9=.int .i64 x9_2∧v10=.int .i64 x10_2∧Aside0 (spec_l06Polynomial.l1 kq a0 a1 x5_1 x6_1 t167 x8_1 x9_2 x10_2=some r)∧Aside0 (kq≤k1)∧Aside0 (Kd.R (Kd.int .i64) 2 w' w.heap.size (fun k_=>some k_≠(u6:Value).ownBlock∧some k_≠(v168:Value).ownBlock) u5 x5_1)∧Aside0 (Kd.R (Kd.int .i64) 2 w' w.heap.size (fun k_=>some k_≠(u5:Value).ownBlock∧some k_≠(v168:Value).ownBlock) u6 x6_1)∧Aside0 (Kd.R (Kd.int .i64) 2 w' w.heap.size (fun k_=>some k_≠(u5:Value).ownBlock∧some k_≠(u6:Value).ownBlock) v168 t167)∧Aside0 (Below w.heap.size w w'))
              case atStart=>exact⟨(0),(0),qB47,qB47,H',⟨Nat.le_refl _⟩,⟨by (with_reducible repeat(first|apply Kd.R_alloc|apply Kd.R_drewN|apply Kd.R_drew));exact HO_5.1⟩,⟨by (with_reducible repeat(first|apply Kd.R_alloc|apply Kd.R_drewN|apply Kd.R_drew));exact HO_6.1⟩,⟨by (with_reducible repeat(first|apply Kd.R_alloc|apply Kd.R_drewN|apply Kd.R_drew));exact HO_7.1⟩,⟨by repeat(first|(with_reducible first|exact HB.1|apply below_alloc|apply pw_below_drewN|apply below_drew1)|exact HB.1)⟩⟩
              case round=>
                clear H';try clear c1
                try clear p2
                try clear c3
                try clear c3b0
                try clear c3b1
                try clear c4
                try clear c4b0
                try clear c4b1
                try clear c5
                try clear c5b0
                try clear c5b1
                try clear p6
                try clear q6
                try clear hx6
                try clear qi6
                try clear hf6
                try clear c8
                try clear c11
                try clear c17
                try clear c17b0
                try clear hx6_0
                try clear p2
                try clear p6
                try clear q6
                obtain⟨x9_2,x10_2,rfl,rfl,HA,HK2,HO_5,HO_6,HO_7,HB⟩:=hrel;cases gk with
                |zero=>exact absurd HA.1 (by simp [spec_l06Polynomial.l1])
                |succ k2=>
                  have H:=HA.1;clear HA;simp only [spec_l06Polynomial.l1] at H
                  by_cases c18:x10_2<a1
                  · rw [if_pos c18] at H
                    have c18b0:decide (x10_2<a1)=true:=decide_eq_true c18;clear c18
                    by_cases c19:0≤x10_2
                    · rw [if_pos c19] at H
                      have c19b0:decide (0≤x10_2)=true:=decide_eq_true c19;clear c19
                      by_cases c20:x10_2<(x6_1.length:Int)
                      · rw [if_pos c20] at H
                        have c20b0:decide (x10_2<(x6_1.length:Int))=true:=decide_eq_true c20;clear c20;have H':=qAm H;clear H;obtain⟨Ao21,co21,eo21⟩:=Kd.R_slice HO_6.1;subst eo21;have p170:0≤(x10_2:Int):=of_decide_eq_true qB46;have q170:x10_2<(x6_1.length:Int):=of_decide_eq_true qB46;obtain⟨ad170,e170,hx170_0⟩:=Kd.at_int (Kd.R_reads' HO_6.1).2.2 x10_2 p170 q170;cases e170
                        replace p170:=eq_true p170;replace q170:=eq_true q170;go_wp2
                        (first|go_roundg k2|((try simp only [add_plain] at *);go_roundg k2))
                        case measure=>have:=HK1.1;have:=HK2.1;omega
                        case rel=>exact⟨(wrap64 (x9_2 - (rd x6_1 x10_2))),(wrap64 (x10_2+1)),qB47,qB47,H',⟨by have:=HK1.1;have:=HK2.1;omega⟩,⟨by (with_reducible repeat(first|apply Kd.R_alloc|apply Kd.R_drewN|apply Kd.R_drew));exact HO_5.1⟩,⟨by (with_reducible repeat(first|apply Kd.R_alloc|apply Kd.R_drewN|apply Kd.R_drew));exact HO_6.1⟩,⟨by (with_reducible repeat(first|apply Kd.R_alloc|apply Kd.R_drewN|apply Kd.R_drew));exact HO_7.1⟩,⟨by repeat(first|(with_reducible first|exact HB.1|apply below_alloc|apply pw_below_drewN|apply below_drew1)|exact HB.1)⟩⟩
                      · rw [if_neg c20] at H
                        exact absurd H (by simp)
                    · rw [if_neg c19] at H
                      exact absurd H (by simp)
                  · rw [if_neg c18] at H
                    have c18b0:decide (x10_2<a1)=false:=decide_eq_false c18;clear c18
                    by_cases c22:x5_1.length<17592186044416
                    · rw [if_pos c22] at H
                      have LMc22:=qAm c22;clear c22;obtain⟨y171,hy171⟩:∃y_:List Int,y_=(x5_1 ++ [x9_2]):=⟨_,rfl⟩
                      replace H:(if x8_1<a1 then ((spec_l06Times.f k2 a0 a1 x6_1 t167).bind fun t174=>(spec_l06Polynomial.l0 k2 a0 a1 y171 t174 t167 (wrap64 (x8_1+1)))) else (spec_l06Polynomial.l0 k2 a0 a1 y171 x6_1 t167 (wrap64 (x8_1+1))))=some r:=by first|(rw [hy171];with_reducible exact H)|(have H2_:=(Option.bind_some _ _).symm.trans H;rw [hy171];with_reducible exact H2_)|(have H2_:=(Option.bind_some _ _).symm.trans H;with_reducible exact H2_)|with_reducible exact H|(rw [hy171];exact H)|exact H
                      have Ny171:=qAm hy171;clear hy171
                      by_cases c23:x8_1<a1
                      · rw [if_pos c23] at H
                        have c23b0:decide (x8_1<a1)=true:=decide_eq_true c23;clear c23;replace H:=qOb H;obtain⟨t174,A240,H⟩:=H;replace H:(spec_l06Polynomial.l0 k2 a0 a1 y171 t174 t167 (wrap64 (x8_1+1)))=some r:=H;have A24:=qAm A240;clear A240;have H':=qAm H;clear H;go_wp2_with (first|((with_reducible refine gate_builtin (b:=.append) (xs:=#[.tmp 40,.tmp 42]) rfl ?_);at_builtin;refine Kd.R_append (Kd.int .i64) (w0:=w) w.heap.size rfl (.tmp 40) (.tmp 42) 22 2 (.int .i64 0) 8 rfl Try.underlying22 info2 rfl (by decide) (by omega) u5 x5_1 x9_2 [.int .i64 x9_2] (fun k_=>some k_≠(u6:Value).ownBlock∧some k_≠(v168:Value).ownBlock) (fun _=>False) rfl rfl ?aP (fun _ hk=>hk.elim) ?aF ?aO ?aB ?aS ?aL ?_;(case aP=>exact rfl);(case aB=>exact qB19);(case aF=>exact(fun k_ hk=>⟨Kd.fresh' (Kd.R_lt qB43) k_ hk,Kd.fresh' (Kd.R_lt qB44) k_ hk⟩));(case aO=>exact qB41);(case aS=>exact(below_size qB19));(case aL=>have:=LMc22.1;omega);intro v172 w25 ho hb hg hat;rw [← Ny171.1] at ho;have n0_:=qAm (Kd.R_after (ok:=(fun k_=>some k_≠(v168:Value).ownBlock)) qB13 hg hat);have n1_:=qAm (Kd.R_after (ok:=(fun k_=>some k_≠(u6:Value).ownBlock)) qB14 hg hat);have n2_:=qAm (hb);have n3_:=qAm (ho);clear HO_6;clear HO_7;clear HB;clear HO_5;have HO_6:=n0_;have HO_7:=n1_;have HB:=n2_;have HO173:=n3_;clear n0_ n1_ n2_ n3_;clear ho hb hg hat;obtain⟨Ao26,co26,eo26⟩:=Kd.R_slice HO_6.1;subst eo26;obtain⟨Ao27,co27,eo27⟩:=Kd.R_slice HO_7.1;subst eo27)|((with_reducible refine gate_callee (f:=122) rfl ?_);refine goesL_ (some 51) rfl rfl Try.func122 (by kernel_rfl) rfl #[.int .i64 a0,.int .i64 a1,.slice Ao26 x6_1.length co26,.slice Ao27 t167.length co27] rfl qB15 ?_;(with_reducible refine(spec_l06Times.calls k2 a0 a1 _ _ x6_1 _ _ t167 t174 _ ?side1 ?side2 ?side3 ?side4 A24.1).mono ?_);(case side1=>repeat(first|exact(Kd.R_reads' HO_6.1).2.2|(with_reducible refine Kd.C_alloc ?_ _)|(with_reducible refine Kd.C_drewN ?_ _)|(with_reducible refine Kd.C_drew ?_)));(case side2=>exact(Kd.R_reads' HO_6.1).2.1);(case side3=>repeat(first|exact(Kd.R_reads' HO_7.1).2.2|(with_reducible refine Kd.C_alloc ?_ _)|(with_reducible refine Kd.C_drewN ?_ _)|(with_reducible refine Kd.C_drew ?_)));(case side4=>exact(Kd.R_reads' HO_7.1).2.1);rintro e w28 ⟨v175,rfl,ho0,hb⟩;refine⟨_,rfl,?_⟩;have n0_:=qAm (Kd.R_elder' qB43 (Kd.R_base ho0) hb);have n1_:=qAm (Kd.R_elder' qB44 (Kd.R_base ho0) hb);have n2_:=qAm (Kd.R_elder' qB30 (Kd.R_base ho0) hb);have n3_:=qAm (Kd.R_lower (Kd.R_new' (Kd.R_new' (Kd.R_new' ho0 (Kd.R_lt qB43)) (Kd.R_lt qB44)) (Kd.R_lt qB30)) (below_size qB19));have n4_:=qAm (below_step qB19 hb);clear HO_6;clear HO_7;clear HO173;clear HB;have HO_6:=n0_;have HO_7:=n1_;have HO173:=n2_;have HO176:=n3_;have HB:=n4_;clear n0_ n1_ n2_ n3_ n4_;(try clear hb);(try clear hb2);(try clear hk);(try clear hi);(try clear ho0)))
                        (first|go_roundg k2|((try simp only [add_plain] at *);go_roundg k2))
                        case measure=>have:=HK1.1;have:=HK2.1;omega
                        case rel=>exact⟨(y171),(t174),(wrap64 (x8_1+1)),qB47,H',⟨by have:=HK1.1;have:=HK2.1;omega⟩,⟨by (with_reducible repeat(first|apply Kd.R_alloc|apply Kd.R_drewN|apply Kd.R_drew));exact Kd.R_mono HO173.1 (fun _ hk=>⟨hk.2,hk.1.2⟩)⟩,⟨by (with_reducible repeat(first|apply Kd.R_alloc|apply Kd.R_drewN|apply Kd.R_drew));exact Kd.R_mono HO176.1 (fun _ hk=>⟨hk.2,hk.1.2⟩)⟩,⟨by (with_reducible repeat(first|apply Kd.R_alloc|apply Kd.R_drewN|apply Kd.R_drew));exact Kd.R_mono HO_7.1 (fun _ hk=>⟨hk.1.2,hk.2⟩)⟩,⟨by repeat(first|(with_reducible first|exact HB.1|apply below_alloc|apply pw_below_drewN|apply below_drew1)|exact HB.1)⟩⟩
                      · rw [if_neg c23] at H
                        have c23b0:decide (x8_1<a1)=false:=decide_eq_false c23;clear c23;have H':=qAm H;clear H;go_wp2_with (first|((with_reducible refine gate_builtin (b:=.append) (xs:=#[.tmp 40,.tmp 42]) rfl ?_);at_builtin;refine Kd.R_append (Kd.int .i64) (w0:=w) w.heap.size rfl (.tmp 40) (.tmp 42) 22 2 (.int .i64 0) 8 rfl Try.underlying22 info2 rfl (by decide) (by omega) u5 x5_1 x9_2 [.int .i64 x9_2] (fun k_=>some k_≠(u6:Value).ownBlock∧some k_≠(v168:Value).ownBlock) (fun _=>False) rfl rfl ?aP (fun _ hk=>hk.elim) ?aF ?aO ?aB ?aS ?aL ?_;(case aP=>exact rfl);(case aB=>exact qB19);(case aF=>exact(fun k_ hk=>⟨Kd.fresh' (Kd.R_lt qB43) k_ hk,Kd.fresh' (Kd.R_lt qB44) k_ hk⟩));(case aO=>exact qB41);(case aS=>exact(below_size qB19));(case aL=>have:=LMc22.1;omega);intro v172 w29 ho hb hg hat;rw [← Ny171.1] at ho;have n0_:=qAm (Kd.R_after (ok:=(fun k_=>some k_≠(v168:Value).ownBlock)) qB13 hg hat);have n1_:=qAm (Kd.R_after (ok:=(fun k_=>some k_≠(u6:Value).ownBlock)) qB14 hg hat);have n2_:=qAm (hb);have n3_:=qAm (ho);clear HO_6;clear HO_7;clear HB;clear HO_5;have HO_6:=n0_;have HO_7:=n1_;have HB:=n2_;have HO173:=n3_;clear n0_ n1_ n2_ n3_;clear ho hb hg hat))
                        (first|go_roundg k2|((try simp only [add_plain] at *);go_roundg k2))
                        case measure=>have:=HK1.1;have:=HK2.1;omega
                        case rel=>exact⟨(y171),(x6_1),(wrap64 (x8_1+1)),qB47,H',⟨by have:=HK1.1;have:=HK2.1;omega⟩,⟨by (with_reducible repeat(first|apply Kd.R_alloc|apply Kd.R_drewN|apply Kd.R_drew));exact HO173.1⟩,⟨by (with_reducible repeat(first|apply Kd.R_alloc|apply Kd.R_drewN|apply Kd.R_drew));exact Kd.R_mono HO_6.1 (fun _ hk=>⟨hk.2,hk.1⟩)⟩,⟨by (with_reducible repeat(first|apply Kd.R_alloc|apply Kd.R_drewN|apply Kd.R_drew));exact Kd.R_mono HO_7.1 (fun _ hk=>⟨hk.2,hk.1⟩)⟩,⟨by repeat(first|(with_reducible first|exact HB.1|apply below_alloc|apply pw_below_drewN|apply below_drew1)|exact HB.1)⟩⟩
                    · rw [if_neg c22] at H
                      exact absurd H (by simp)
            · rw [if_neg c17] at H
              have c17b0:decide (x8_1≤a1)=false:=decide_eq_false c17;clear c17;obtain⟨y177,hy177⟩:∃y_:List Int,y_=(([1]:List Int)):=⟨_,rfl⟩
              replace H:(spec_l06Polynomial.l2 k1 a1 x5_1 y177 1)=some r:=by first|(rw [hy177];with_reducible exact H)|(have H2_:=(Option.bind_some _ _).symm.trans H;rw [hy177];with_reducible exact H2_)|(have H2_:=(Option.bind_some _ _).symm.trans H;with_reducible exact H2_)|with_reducible exact H|(rw [hy177];exact H)|exact H
              have Ny177:=qAm hy177;clear hy177;have H':=qAm H;clear H;go_wp2_with (first|((with_reducible refine gate_dst (N:=52) rfl ?_);refine Kd.R_lit (Kd.int .i64) _ 2 ?hg (N:=52) ?hd (xs:=([1]:List Int)) (inner:=[.int .i64 1]) (ok:=fun _=>True) (okp:=fun _=>True) ?hr ?hp (fun _ hk=>hk) trivial (Below.refl _ _) (Nat.le_refl _) (by simp) ?_;(case hd=>rfl);(case hg=>rfl);(case hr=>first|(go_simp;done)|(go_simp;rfl));(case hp=>exact(Reps.one (show Kd.M (Kd.int .i64) _ _ _ 1 [.int .i64 1] from rfl) (Reps.none _ _)));intro v178 w30 ho31 hb hg_ hnew_;clear hg_ hnew_;(first|rw [← Ny177.1] at ho31|(simp only [Int.reduceToNat] at ho31;rw [← Ny177.1] at ho31));have n0_:=qAm (Kd.R_elder' qB41 (Kd.R_base ho31) hb);have n1_:=qAm (Kd.R_elder' qB43 (Kd.R_base ho31) hb);have n2_:=qAm (Kd.R_elder' qB44 (Kd.R_base ho31) hb);have n3_:=qAm (Kd.R_lower (Kd.R_new' (Kd.R_new' (Kd.R_new' ho31 (Kd.R_lt qB41)) (Kd.R_lt qB43)) (Kd.R_lt qB44)) (below_size qB19));have n4_:=qAm (below_step qB19 hb);clear HO_5;clear HO_6;clear HO_7;clear HB;have HO_5:=n0_;have HO_6:=n1_;have HO_7:=n2_;have HO179:=n3_;have HB:=n4_;clear n0_ n1_ n2_ n3_ n4_;clear hb ho31));try simp only [Act.put,qSa,qSc,qSb]
              go_loopg [11,12] k1 (fun kq v11 v12 w'=>∃(x11_2:List Int) (x12_2:Int),v12=.int .i64 x12_2∧Aside0 (spec_l06Polynomial.l2 kq a1 x5_1 x11_2 x12_2=some r)∧Aside0 (kq≤k1)∧Aside0 (Kd.R (Kd.int .i64) 2 w' w.heap.size (fun k_=>some k_≠(v11:Value).ownBlock) u5 x5_1)∧Aside0 (Kd.R (Kd.int .i64) 2 w' w.heap.size (fun k_=>some k_≠(u5:Value).ownBlock) v11 x11_2)∧Aside0 (Below w.heap.size w w'))
              case atStart=>exact⟨(y177),(1),qB47,H',⟨Nat.le_refl _⟩,⟨by (with_reducible repeat(first|apply Kd.R_alloc|apply Kd.R_drewN|apply Kd.R_drew));exact Kd.R_mono HO_5.1 (fun _ hk=>hk.2)⟩,⟨by (with_reducible repeat(first|apply Kd.R_alloc|apply Kd.R_drewN|apply Kd.R_drew));exact Kd.R_mono HO179.1 (fun _ hk=>hk.1.1.2)⟩,⟨by repeat(first|(with_reducible first|exact HB.1|apply below_alloc|apply pw_below_drewN|apply below_drew1)|exact HB.1)⟩⟩
              case round=>
                clear H';try clear c1
                try clear p1
                try clear q1
                try clear hx1
                try clear c2
                try clear p2
                try clear c3
                try clear c3b0
                try clear c3b1
                try clear c4
                try clear c4b0
                try clear c4b1
                try clear c5
                try clear c5b0
                try clear c5b1
                try clear p6
                try clear q6
                try clear hx6
                try clear qi6
                try clear hf6
                try clear c8
                try clear c11
                try clear c12
                try clear c17
                try clear c17b0
                try clear p17
                try clear q17
                try clear hx17
                try clear c18
                try clear c18b0
                try clear c19
                try clear c19b0
                try clear c20
                try clear c20b0
                try clear c22
                try clear c23
                try clear c23b0
                try clear hx170_0
                try clear hx6_0
                try clear p170
                try clear p2
                try clear p6
                try clear q170
                try clear q6
                obtain⟨x11_2,x12_2,rfl,HA,HK2,HO_5,HO_11,HB⟩:=hrel;cases gk with
                |zero=>exact absurd HA.1 (by simp [spec_l06Polynomial.l2])
                |succ k2=>
                  have H:=HA.1;clear HA;simp only [spec_l06Polynomial.l2] at H
                  by_cases c32:x12_2≤a1
                  · rw [if_pos c32] at H
                    have c32b0:decide (x12_2≤a1)=true:=decide_eq_true c32;clear c32;have H':=qAm H;clear H;go_wp2;try simp only [Act.put,qSa,qSc,qSb]
                    go_loopg [13,14] k2 (fun kq v13 v14 w'=>∃(x13_3:Int) (x14_3:Int),v13=.int .i64 x13_3∧v14=.int .i64 x14_3∧Aside0 (spec_l06Polynomial.l3 kq a1 x5_1 x11_2 x12_2 x13_3 x14_3=some r)∧Aside0 (kq≤k2)∧Aside0 (Kd.R (Kd.int .i64) 2 w' w.heap.size (fun k_=>some k_≠(u11:Value).ownBlock) u5 x5_1)∧Aside0 (Kd.R (Kd.int .i64) 2 w' w.heap.size (fun k_=>some k_≠(u5:Value).ownBlock) u11 x11_2)∧Aside0 (Below w.heap.size w w'))
                    case atStart=>exact⟨(0),(1),qB47,qB47,H',⟨Nat.le_refl _⟩,⟨by (with_reducible repeat(first|apply Kd.R_alloc|apply Kd.R_drewN|apply Kd.R_drew));exact HO_5.1⟩,⟨by (with_reducible repeat(first|apply Kd.R_alloc|apply Kd.R_drewN|apply Kd.R_drew));exact HO_11.1⟩,⟨by repeat(first|(with_reducible first|exact HB.1|apply below_alloc|apply pw_below_drewN|apply below_drew1)|exact HB.1)⟩⟩
                    case round=>
                      clear H';try clear c1
                      try clear p1
                      try clear q1
                      try clear hx1
                      try clear c2
                      try clear p2
                      try clear c3
                      try clear c3b0
                      try clear c3b1
                      try clear c4
                      try clear c4b0
                      try clear c4b1
                      try clear c5
                      try clear c5b0
                      try clear c5b1
                      try clear p6
                      try clear q6
                      try clear hx6
                      try clear qi6
                      try clear hf6
                      try clear c8
                      try clear c11
                      try clear c12
                      try clear c17
                      try clear c17b0
                      try clear p17
                      try clear q17
                      try clear hx17
                      try clear c18
                      try clear c18b0
                      try clear c19
                      try clear c19b0
                      try clear c20
                      try clear c20b0
                      try clear c22
                      try clear c23
                      try clear c23b0
                      try clear c32
                      try clear c32b0
                      try clear hx170_0
                      try clear hx6_0
                      try clear p1
                      try clear p17
                      try clear p170
                      try clear p2
                      try clear p6
                      try clear q1
                      try clear q17
                      try clear q170
                      try clear q6
                      obtain⟨x13_3,x14_3,rfl,rfl,HA,HK3,HO_5,HO_11,HB⟩:=hrel;cases gk with
                      |zero=>exact absurd HA.1 (by simp [spec_l06Polynomial.l3])
                      |succ k3=>
                        have H:=HA.1;clear HA;simp only [spec_l06Polynomial.l3] at H
                        by_cases c33:x14_3≤x12_2
                        · rw [if_pos c33] at H
                          have c33b0:decide (x14_3≤x12_2)=true:=decide_eq_true c33;clear c33;obtain⟨ji34,hji34⟩:∃j_:Int,(wrap64 (x14_3 - 1))=j_:=⟨_,rfl⟩
                          replace H:(if 0≤(ji34) then (if (ji34)<(x5_1.length:Int) then (if 0≤(wrap64 (x12_2 - x14_3)) then (if (wrap64 (x12_2 - x14_3))<(x11_2.length:Int) then (spec_l06Polynomial.l3 k3 a1 x5_1 x11_2 x12_2 (wrap64 (x13_3 - (wrap64 ((rd x5_1 (ji34))*(rd x11_2 (wrap64 (x12_2 - x14_3))))))) (wrap64 (x14_3+1))) else (none)) else (none)) else (none)) else (none))=some r:=by first|(rw [hji34] at H;exact H)|(simp only [hji34] at H ⊢;exact H)
                          have hji34w:(IntKind.i64.wrap (x14_3 - 1))=ji34:=(i64_w _).trans hji34
                          by_cases c35:0≤(ji34)
                          · rw [if_pos c35] at H
                            have c35b0:decide (0≤(ji34))=true:=decide_eq_true c35;clear c35
                            by_cases c36:(ji34)<(x5_1.length:Int)
                            · rw [if_pos c36] at H
                              have c36b0:decide ((ji34)<(x5_1.length:Int))=true:=decide_eq_true c36;clear c36;obtain⟨ji37,hji37⟩:∃j_:Int,(wrap64 (x12_2 - x14_3))=j_:=⟨_,rfl⟩
                              replace H:(if 0≤(ji37) then (if (ji37)<(x11_2.length:Int) then (spec_l06Polynomial.l3 k3 a1 x5_1 x11_2 x12_2 (wrap64 (x13_3 - (wrap64 ((rd x5_1 (ji34))*(rd x11_2 (ji37)))))) (wrap64 (x14_3+1))) else (none)) else (none))=some r:=by first|(rw [hji37] at H;exact H)|(simp only [hji37] at H ⊢;exact H)
                              have hji37w:(IntKind.i64.wrap (x12_2 - x14_3))=ji37:=(i64_w _).trans hji37
                              by_cases c38:0≤(ji37)
                              · rw [if_pos c38] at H
                                have c38b0:decide (0≤(ji37))=true:=decide_eq_true c38;clear c38
                                by_cases c39:(ji37)<(x11_2.length:Int)
                                · rw [if_pos c39] at H
                                  have c39b0:decide ((ji37)<(x11_2.length:Int))=true:=decide_eq_true c39;clear c39;have H':=qAm H;clear H;try go_wp2
                                  have n0_:=qAm (Kd.R_drew HO_5.1);have n1_:=qAm (Kd.R_drew HO_11.1);have n2_:=qAm (below_drew1 HB.1);clear HO_5 HO_11 HB;have HO_5:=n0_;have HO_11:=n1_;have HB:=n2_;clear n0_ n1_ n2_;obtain⟨Ao41,co41,eo41⟩:=Kd.R_slice HO_5.1
                                  (first|subst eo41|(injection eo41 with f1_ f2_ f3_;have f4_:=f1_.symm;have f5_:=f3_.symm;clear f1_ f2_ f3_;subst f4_;subst f5_))
                                  have p180:0≤((ji34):Int):=of_decide_eq_true qB46;have q180:(ji34)<(x5_1.length:Int):=of_decide_eq_true qB46;obtain⟨ad180,e180,hx180_0⟩:=Kd.at_int (Kd.R_reads' HO_5.1).2.2 (ji34) p180 q180;cases e180
                                  replace p180:=eq_true p180;replace q180:=eq_true q180;obtain⟨Ao42,co42,eo42⟩:=Kd.R_slice HO_11.1
                                  (first|subst eo42|(injection eo42 with f1_ f2_ f3_;have f4_:=f1_.symm;have f5_:=f3_.symm;clear f1_ f2_ f3_;subst f4_;subst f5_))
                                  have p181:0≤((ji37):Int):=of_decide_eq_true qB46;have q181:(ji37)<(x11_2.length:Int):=of_decide_eq_true qB46;obtain⟨ad181,e181,hx181_0⟩:=Kd.at_int (Kd.R_reads' HO_11.1).2.2 (ji37) p181 q181;cases e181
                                  replace p181:=eq_true p181;replace q181:=eq_true q181;refine start_ (n:=15) (S:=fun w'=>w'.cell? (ad180.add ((ji34)).toNat)=some (.int .i64 (rd x5_1 (ji34)))∧w'.cell? (ad181.add ((ji37)).toNat)=some (.int .i64 (rd x11_2 (ji37)))) (ds:=[]) #[false,false,false,false,false,false,false,false,false,false,false,false,false,false,false] (by kernel_rfl) rfl rfl ⟨hx180_0,hx181_0⟩ (fun hHeld=>?_);refine with_tabW spec_l06Polynomial.tab23 spec_l06Polynomial.bits23 (fun HT_ HW_=>?_);generalize wr.drew=w40 at HO_5 HO_11 HB hx180_0 hx181_0 hHeld ⊢;refine pure_ (i:=0) (N:=some 63) (v:=?_) (a':=?_) #[true,false,false,false,false,false,false,false,false,false,false,false,false,false,false] rfl rfl (any_of HT_.1 (by kernel_rfl)) (fun _ _ _ h=>h) (Or.inl ⟨by rfl,?_⟩) ?_ ?_;rotate_left
                                  · intro w'
                                    go_simp;with_reducible rfl
                                  rotate_left
                                  · simp only [Act.put,qSa,qSb,qSc,i64_w,i32_w]
                                    rfl
                                  refine pure_ (i:=1) (N:=some 64) (v:=?_) (a':=?_) #[true,true,false,false,false,false,false,false,false,false,false,false,false,false,false] rfl rfl (any_of HT_.1 (by kernel_rfl)) (fun _ _ _ h=>h) (Or.inl ⟨by rfl,?_⟩) ?_ ?_;rotate_left
                                  · intro w'
                                    go_simp;with_reducible rfl
                                  rotate_left
                                  · simp only [Act.put,qSa,qSb,qSc,i64_w,i32_w]
                                    rfl
                                  refine pure_ (i:=2) (N:=some 65) (v:=?_) (a':=?_) #[true,true,true,false,false,false,false,false,false,false,false,false,false,false,false] rfl rfl (any_of HT_.1 (by kernel_rfl)) (fun _ _ _ h=>h) (Or.inl ⟨by rfl,?_⟩) ?_ ?_;rotate_left
                                  · intro w'
                                    go_simp;with_reducible rfl
                                  rotate_left
                                  · simp only [Act.put,qSa,qSb,qSc,i64_w,i32_w]
                                    rfl
                                  refine pure_ (i:=3) (N:=some 66) (v:=?_) (a':=?_) #[true,true,true,true,false,false,false,false,false,false,false,false,false,false,false] rfl rfl (any_of HT_.1 (by kernel_rfl)) (fun _ _ _ h=>h) (Or.inl ⟨by rfl,?_⟩) ?_ ?_;rotate_left
                                  · intro w'
                                    go_simp;with_reducible rfl
                                  rotate_left
                                  · simp only [Act.put,qSa,qSb,qSc,i64_w,i32_w]
                                    rfl
                                  refine pure_ (i:=4) (N:=some 67) (v:=?_) (a':=?_) #[true,true,true,true,true,false,false,false,false,false,false,false,false,false,false] rfl rfl (any_of HT_.1 (by kernel_rfl)) (fun _ _ _ h=>h) (Or.inl ⟨by rfl,?_⟩) ?_ ?_;rotate_left
                                  · intro w'
                                    go_simp;with_reducible rfl
                                  rotate_left
                                  · simp only [Act.put,qSa,qSb,qSc,i64_w,i32_w]
                                    rfl
                                  refine pure_ (i:=6) (N:=some 69) (v:=?_) (a':=?_) #[true,true,true,true,true,false,true,false,false,false,false,false,false,false,false] rfl rfl (any_of HT_.1 (by kernel_rfl)) (fun _ _ _ h=>h) (Or.inl ⟨by rfl,?_⟩) ?_ ?_;rotate_left
                                  · intro w'
                                    go_simp;with_reducible rfl
                                  rotate_left
                                  · simp only [Act.put,qSa,qSb,qSc,i64_w,i32_w]
                                    rfl
                                  refine pure_ (i:=7) (N:=some 70) (v:=?_) (a':=?_) #[true,true,true,true,true,false,true,true,false,false,false,false,false,false,false] rfl rfl (any_of HT_.1 (by kernel_rfl)) (fun _ _ _ h=>h) (Or.inl ⟨by rfl,?_⟩) ?_ ?_;rotate_left
                                  · intro w'
                                    go_simp;with_reducible rfl
                                  rotate_left
                                  · simp only [Act.put,qSa,qSb,qSc,i64_w,i32_w]
                                    rfl
                                  refine pure_ (i:=8) (N:=some 71) (v:=?_) (a':=?_) #[true,true,true,true,true,false,true,true,true,false,false,false,false,false,false] rfl rfl (any_of HT_.1 (by kernel_rfl)) (fun _ _ _ h=>h) (Or.inl ⟨by rfl,?_⟩) ?_ ?_;rotate_left
                                  · intro w'
                                    go_simp;with_reducible rfl
                                  rotate_left
                                  · simp only [Act.put,qSa,qSb,qSc,i64_w,i32_w]
                                    rfl
                                  refine pure_ (i:=9) (N:=some 72) (v:=?_) (a':=?_) #[true,true,true,true,true,false,true,true,true,true,false,false,false,false,false] rfl rfl (any_of HT_.1 (by kernel_rfl)) (fun _ _ _ h=>h) (Or.inl ⟨by rfl,?_⟩) ?_ ?_;rotate_left
                                  · intro w'
                                    go_simp;with_reducible rfl
                                  rotate_left
                                  · simp only [Act.put,qSa,qSb,qSc,i64_w,i32_w]
                                    rfl
                                  refine pure_ (i:=10) (N:=some 73) (v:=?_) (a':=?_) #[true,true,true,true,true,false,true,true,true,true,true,false,false,false,false] rfl rfl (any_of HT_.1 (by kernel_rfl)) (fun _ _ _ h=>h) (Or.inl ⟨by rfl,?_⟩) ?_ ?_;rotate_left
                                  · intro w'
                                    go_simp;with_reducible rfl
                                  rotate_left
                                  · simp only [Act.put,qSa,qSb,qSc,i64_w,i32_w]
                                    rfl
                                  refine take_ (i:=5) (N:=some 68) (v:=?_) (a':=?_) #[true,true,true,true,true,true,true,true,true,true,true,false,false,false,false] rfl rfl (take_ofW HT_.1 HW_.1 (by kernel_rfl)) (fun _ _ _ h=>h) (Or.inl ⟨by rfl,?_⟩) hHeld ?_ ?_;rotate_left
                                  · rintro w' ⟨s0,s1⟩
                                    go_simp;with_reducible rfl
                                  rotate_left
                                  · simp only [Act.put,qSa,qSb,qSc,i64_w,i32_w]
                                    rfl
                                  refine take_ (i:=11) (N:=some 74) (v:=?_) (a':=?_) #[true,true,true,true,true,true,true,true,true,true,true,true,false,false,false] rfl rfl (take_ofW HT_.1 HW_.1 (by kernel_rfl)) (fun _ _ _ h=>h) (Or.inl ⟨by rfl,?_⟩) hHeld ?_ ?_;rotate_left
                                  · rintro w' ⟨s0,s1⟩
                                    go_simp;with_reducible rfl
                                  rotate_left
                                  · simp only [Act.put,qSa,qSb,qSc,i64_w,i32_w]
                                    rfl
                                  refine pure_ (i:=12) (N:=some 75) (v:=?_) (a':=?_) #[true,true,true,true,true,true,true,true,true,true,true,true,true,false,false] rfl rfl (any_of HT_.1 (by kernel_rfl)) (fun _ _ _ h=>h) (Or.inl ⟨by rfl,?_⟩) ?_ ?_;rotate_left
                                  · intro w'
                                    go_simp;with_reducible rfl
                                  rotate_left
                                  · simp only [Act.put,qSa,qSb,qSc,i64_w,i32_w]
                                    rfl
                                  refine pure_ (i:=13) (N:=some 76) (v:=?_) (a':=?_) #[true,true,true,true,true,true,true,true,true,true,true,true,true,true,false] rfl rfl (any_of HT_.1 (by kernel_rfl)) (fun _ _ _ h=>h) (Or.inl ⟨by rfl,?_⟩) ?_ ?_;rotate_left
                                  · intro w'
                                    go_simp;with_reducible rfl
                                  rotate_left
                                  · simp only [Act.put,qSa,qSb,qSc,i64_w,i32_w]
                                    rfl
                                  refine pure_ (i:=14) (N:=some 13) (v:=?_) (a':=?_) #[true,true,true,true,true,true,true,true,true,true,true,true,true,true,true] rfl rfl (any_of HT_.1 (by kernel_rfl)) (fun _ _ _ h=>h) (Or.inl ⟨by rfl,?_⟩) ?_ ?_;rotate_left
                                  · intro w'
                                    go_simp;with_reducible rfl
                                  rotate_left
                                  · simp only [Act.put,qSa,qSb,qSc,i64_w,i32_w]
                                    rfl
                                  refine done_ (done_of HT_.1 (by kernel_rfl)) ?_;try go_wp2
                                  (first|go_roundg k3|((try simp only [add_plain] at *);go_roundg k3))
                                  case measure=>have:=HK1.1;have:=HK2.1;have:=HK3.1;omega
                                  case rel=>exact⟨(wrap64 (x13_3 - (wrap64 ((rd x5_1 (ji34))*(rd x11_2 (ji37)))))),(wrap64 (x14_3+1)),(by first|rfl|(simp;done)|(simp only [← hji34,← hji37] <;> (first|rfl|simp))|(simp [*];done)),qB47,H',⟨by have:=HK1.1;have:=HK2.1;have:=HK3.1;omega⟩,⟨by (with_reducible repeat(first|apply Kd.R_alloc|apply Kd.R_drewN|apply Kd.R_drew));exact HO_5.1⟩,⟨by (with_reducible repeat(first|apply Kd.R_alloc|apply Kd.R_drewN|apply Kd.R_drew));exact HO_11.1⟩,⟨by repeat(first|(with_reducible first|exact HB.1|apply below_alloc|apply pw_below_drewN|apply below_drew1)|exact HB.1)⟩⟩
                                · rw [if_neg c39] at H
                                  exact absurd H (by simp)
                              · rw [if_neg c38] at H
                                exact absurd H (by simp)
                            · rw [if_neg c36] at H
                              exact absurd H (by simp)
                          · rw [if_neg c35] at H
                            exact absurd H (by simp)
                        · rw [if_neg c33] at H
                          have c33b0:decide (x14_3≤x12_2)=false:=decide_eq_false c33;clear c33
                          by_cases c43:x12_2=0
                          · rw [if_pos c43] at H
                            exact absurd H (by simp)
                          · rw [if_neg c43] at H
                            have c43b0:(x12_2==0)=false:=beq_eq_false_iff_ne.mpr c43;have c43b1:(x12_2 !=0)=true:=bne_iff_ne.mpr c43
                            by_cases c44:x11_2.length<17592186044416
                            · rw [if_pos c44] at H
                              have LMc44:=qAm c44;clear c44;obtain⟨y182,hy182⟩:∃y_:List Int,y_=(x11_2 ++ [wrap64 (Int.tdiv x13_3 x12_2)]):=⟨_,rfl⟩
                              replace H:(spec_l06Polynomial.l2 k3 a1 x5_1 y182 (wrap64 (x12_2+1)))=some r:=by first|(rw [hy182];with_reducible exact H)|(have H2_:=(Option.bind_some _ _).symm.trans H;rw [hy182];with_reducible exact H2_)|(have H2_:=(Option.bind_some _ _).symm.trans H;with_reducible exact H2_)|with_reducible exact H|(rw [hy182];exact H)|exact H
                              have Ny182:=qAm hy182;clear hy182;have H':=qAm H;clear H;go_wp2_with (first|((with_reducible refine gate_builtin (b:=.append) (xs:=#[.tmp 77,.tmp 81]) rfl ?_);at_builtin;refine Kd.R_append (Kd.int .i64) (w0:=w) w.heap.size rfl (.tmp 77) (.tmp 81) 22 2 (.int .i64 0) 8 rfl Try.underlying22 info2 rfl (by decide) (by omega) u11 x11_2 (wrap64 (Int.tdiv x13_3 x12_2)) [.int .i64 (wrap64 (Int.tdiv x13_3 x12_2))] (fun k_=>some k_≠(u5:Value).ownBlock) (fun _=>False) rfl rfl ?aP (fun _ hk=>hk.elim) ?aF ?aO ?aB ?aS ?aL ?_;(case aP=>exact rfl);(case aB=>exact qB19);(case aF=>exact(fun k_ hk=>Kd.fresh' (Kd.R_lt qB41) k_ hk));(case aO=>exact qB31);(case aS=>exact(below_size qB19));(case aL=>have:=LMc44.1;omega);intro v183 w45 ho hb hg hat;rw [← Ny182.1] at ho;have n0_:=qAm (Kd.R_after (ok:=(fun _=>True)) (by (with_reducible repeat(first|apply Kd.R_alloc|apply Kd.R_drewN|apply Kd.R_drew));exact Kd.R_mono HO_5.1 (fun _ hk=>⟨trivial,hk⟩)) hg hat);have n1_:=qAm (hb);have n2_:=qAm (ho);clear HO_5;clear HB;clear HO_11;have HO_5:=n0_;have HB:=n1_;have HO184:=n2_;clear n0_ n1_ n2_;clear ho hb hg hat))
                              (first|go_roundg k3|((try simp only [add_plain] at *);go_roundg k3))
                              case measure=>have:=HK1.1;have:=HK2.1;have:=HK3.1;omega
                              case rel=>exact⟨(y182),(wrap64 (x12_2+1)),qB47,H',⟨by have:=HK1.1;have:=HK2.1;have:=HK3.1;omega⟩,⟨by (with_reducible repeat(first|apply Kd.R_alloc|apply Kd.R_drewN|apply Kd.R_drew));exact Kd.R_mono HO_5.1 (fun _ hk=>hk.2)⟩,⟨by (with_reducible repeat(first|apply Kd.R_alloc|apply Kd.R_drewN|apply Kd.R_drew));exact HO184.1⟩,⟨by repeat(first|(with_reducible first|exact HB.1|apply below_alloc|apply pw_below_drewN|apply below_drew1)|exact HB.1)⟩⟩
                            · rw [if_neg c44] at H
                              exact absurd H (by simp)
                  · rw [if_neg c32] at H
                    have c32b0:decide (x12_2≤a1)=false:=decide_eq_false c32;clear c32;obtain⟨y185,hy185⟩:∃y_:List Int,y_=(([]:List Int)):=⟨_,rfl⟩
                    replace H:(spec_l06Polynomial.l4 k2 x11_2 y185 a1)=some r:=by first|(rw [hy185];with_reducible exact H)|(have H2_:=(Option.bind_some _ _).symm.trans H;rw [hy185];with_reducible exact H2_)|(have H2_:=(Option.bind_some _ _).symm.trans H;with_reducible exact H2_)|with_reducible exact H|(rw [hy185];exact H)|exact H
                    have Ny185:=qAm hy185;clear hy185;have H':=qAm H;clear H;go_wp2_with (first|((with_reducible refine gate_dst (N:=83) rfl ?_);refine Kd.R_lit (Kd.int .i64) _ 2 ?hg (N:=83) ?hd (xs:=([]:List Int)) (inner:=[]) (ok:=fun _=>True) (okp:=fun _=>True) ?hr ?hp (fun _ hk=>hk) trivial (Below.refl _ _) (Nat.le_refl _) (by simp) ?_;(case hd=>rfl);(case hg=>rfl);(case hr=>first|(go_simp;done)|(go_simp;rfl));(case hp=>exact(Reps.none _ _));intro v186 w46 ho47 hb hg_ hnew_;clear hg_ hnew_;(first|rw [← Ny185.1] at ho47|(simp only [Int.reduceToNat] at ho47;rw [← Ny185.1] at ho47));have n0_:=qAm (Kd.R_elder' qB41 (Kd.R_base ho47) hb);have n1_:=qAm (Kd.R_elder' qB31 (Kd.R_base ho47) hb);have n2_:=qAm (Kd.R_lower (Kd.R_new' (Kd.R_new' ho47 (Kd.R_lt qB41)) (Kd.R_lt qB31)) (below_size qB19));have n3_:=qAm (below_step qB19 hb);clear HO_5;clear HO_11;clear HB;have HO_5:=n0_;have HO_11:=n1_;have HO187:=n2_;have HB:=n3_;clear n0_ n1_ n2_ n3_;clear hb ho47));try simp only [Act.put,qSa,qSc,qSb]
                    go_loopg [15,16] k2 (fun kq v15 v16 w'=>∃(x15_3:List Int) (x16_3:Int),v16=.int .i64 x16_3∧Aside0 (spec_l06Polynomial.l4 kq x11_2 x15_3 x16_3=some r)∧Aside0 (kq≤k2)∧Aside0 (Kd.R (Kd.int .i64) 2 w' w.heap.size (fun k_=>some k_≠(v15:Value).ownBlock) u11 x11_2)∧Aside0 (Kd.R (Kd.int .i64) 2 w' w.heap.size (fun k_=>some k_≠(u11:Value).ownBlock) v15 x15_3)∧Aside0 (Below w.heap.size w w'))
                    case atStart=>exact⟨(y185),(a1),qB47,H',⟨Nat.le_refl _⟩,⟨by (with_reducible repeat(first|apply Kd.R_alloc|apply Kd.R_drewN|apply Kd.R_drew));exact Kd.R_mono HO_11.1 (fun _ hk=>hk.2)⟩,⟨by (with_reducible repeat(first|apply Kd.R_alloc|apply Kd.R_drewN|apply Kd.R_drew));exact Kd.R_mono HO187.1 (fun _ hk=>hk.2)⟩,⟨by repeat(first|(with_reducible first|exact HB.1|apply below_alloc|apply pw_below_drewN|apply below_drew1)|exact HB.1)⟩⟩
                    case round=>
                      clear H';try clear c1
                      try clear p1
                      try clear q1
                      try clear hx1
                      try clear c2
                      try clear p2
                      try clear c3
                      try clear c3b0
                      try clear c3b1
                      try clear c4
                      try clear c4b0
                      try clear c4b1
                      try clear c5
                      try clear c5b0
                      try clear c5b1
                      try clear p6
                      try clear q6
                      try clear hx6
                      try clear qi6
                      try clear hf6
                      try clear c8
                      try clear c11
                      try clear c12
                      try clear c17
                      try clear c17b0
                      try clear p17
                      try clear q17
                      try clear hx17
                      try clear c18
                      try clear c18b0
                      try clear p18
                      try clear q18
                      try clear hx18
                      try clear c19
                      try clear c19b0
                      try clear c20
                      try clear c20b0
                      try clear c22
                      try clear c23
                      try clear c23b0
                      try clear c32
                      try clear c32b0
                      try clear c33
                      try clear c33b0
                      try clear c35
                      try clear c35b0
                      try clear c36
                      try clear c36b0
                      try clear c38
                      try clear c38b0
                      try clear c39
                      try clear c39b0
                      try clear c43
                      try clear c43b0
                      try clear c43b1
                      try clear c44
                      try clear hx170_0
                      try clear hx180_0
                      try clear hx181_0
                      try clear hx6_0
                      try clear p1
                      try clear p17
                      try clear p170
                      try clear p180
                      try clear p181
                      try clear p2
                      try clear p6
                      try clear q1
                      try clear q17
                      try clear q170
                      try clear q180
                      try clear q181
                      try clear q6
                      obtain⟨x15_3,x16_3,rfl,HA,HK3,HO_11,HO_15,HB⟩:=hrel;cases gk with
                      |zero=>exact absurd HA.1 (by simp [spec_l06Polynomial.l4])
                      |succ k3=>
                        have H:=HA.1;clear HA;simp only [spec_l06Polynomial.l4] at H
                        by_cases c48:x16_3≥0
                        · rw [if_pos c48] at H
                          have c48b0:decide (0≤x16_3)=true:=decide_eq_true c48;clear c48
                          by_cases c49:0≤x16_3
                          · rw [if_pos c49] at H
                            have c49b0:decide (0≤x16_3)=true:=decide_eq_true c49;clear c49
                            by_cases c50:x16_3<(x11_2.length:Int)
                            · rw [if_pos c50] at H
                              have c50b0:decide (x16_3<(x11_2.length:Int))=true:=decide_eq_true c50;clear c50
                              by_cases c51:x15_3.length<17592186044416
                              · rw [if_pos c51] at H
                                have LMc51:=qAm c51;clear c51;obtain⟨y189,hy189⟩:∃y_:List Int,y_=(x15_3 ++ [rd x11_2 x16_3]):=⟨_,rfl⟩
                                replace H:(spec_l06Polynomial.l4 k3 x11_2 y189 (wrap64 (x16_3 - 1)))=some r:=by first|(rw [hy189];with_reducible exact H)|(have H2_:=(Option.bind_some _ _).symm.trans H;rw [hy189];with_reducible exact H2_)|(have H2_:=(Option.bind_some _ _).symm.trans H;with_reducible exact H2_)|with_reducible exact H|(rw [hy189];exact H)|exact H
                                have Ny189:=qAm hy189;clear hy189;have H':=qAm H;clear H;obtain⟨Ao52,co52,eo52⟩:=Kd.R_slice HO_11.1;subst eo52;have p188:0≤(x16_3:Int):=of_decide_eq_true qB46;have q188:x16_3<(x11_2.length:Int):=of_decide_eq_true qB46;obtain⟨ad188,e188,hx188_0⟩:=Kd.at_int (Kd.R_reads' HO_11.1).2.2 x16_3 p188 q188;cases e188
                                replace p188:=eq_true p188;replace q188:=eq_true q188;go_wp2_with (first|((with_reducible refine gate_builtin (b:=.append) (xs:=#[.tmp 89,.tmp 94]) rfl ?_);at_builtin;refine Kd.R_append (Kd.int .i64) (w0:=w) w.heap.size rfl (.tmp 89) (.tmp 94) 22 2 (.int .i64 0) 8 rfl Try.underlying22 info2 rfl (by decide) (by omega) u15 x15_3 (rd x11_2 x16_3) [.int .i64 (rd x11_2 x16_3)] (fun k_=>some k_≠(.slice (some ad188) x11_2.length co52:Value).ownBlock) (fun _=>False) rfl rfl ?aP (fun _ hk=>hk.elim) ?aF ?aO ?aB ?aS ?aL ?_;(case aP=>exact rfl);(case aB=>exact qB19);(case aF=>exact(fun k_ hk=>Kd.fresh' (Kd.R_lt qB31) k_ hk));(case aO=>exact qB32);(case aS=>exact(below_size qB19));(case aL=>have:=LMc51.1;omega);intro v190 w53 ho hb hg hat;rw [← Ny189.1] at ho;have n0_:=qAm (Kd.R_after (ok:=(fun _=>True)) (by (with_reducible repeat(first|apply Kd.R_alloc|apply Kd.R_drewN|apply Kd.R_drew));exact Kd.R_mono HO_11.1 (fun _ hk=>⟨trivial,hk⟩)) hg hat);have n1_:=qAm (hb);have n2_:=qAm (ho);clear HO_11;clear HB;clear HO_15;have HO_11:=n0_;have HB:=n1_;have HO191:=n2_;clear n0_ n1_ n2_;clear ho hb hg hat))
                                (first|go_roundg k3|((try simp only [add_plain] at *);go_roundg k3))
                                case measure=>have:=HK1.1;have:=HK2.1;have:=HK3.1;omega
                                case rel=>exact⟨(y189),(wrap64 (x16_3 - 1)),qB47,H',⟨by have:=HK1.1;have:=HK2.1;have:=HK3.1;omega⟩,⟨by (with_reducible repeat(first|apply Kd.R_alloc|apply Kd.R_drewN|apply Kd.R_drew));exact Kd.R_mono HO_11.1 (fun _ hk=>hk.2)⟩,⟨by (with_reducible repeat(first|apply Kd.R_alloc|apply Kd.R_drewN|apply Kd.R_drew));exact HO191.1⟩,⟨by repeat(first|(with_reducible first|exact HB.1|apply below_alloc|apply pw_below_drewN|apply below_drew1)|exact HB.1)⟩⟩
                              · rw [if_neg c51] at H
                                exact absurd H (by simp)
                            · rw [if_neg c50] at H
                              exact absurd H (by simp)
                          · rw [if_neg c49] at H
                            exact absurd H (by simp)
                        · rw [if_neg c48] at H
                          have c48b0:decide (0≤x16_3)=false:=decide_eq_false c48;clear c48;obtain rfl:=Option.some.inj H;go_wp2;go_ret;exact⟨_,by first|rfl|(simp [errW_none,errW_some] <;> rfl)|(simp [*,errW_none,errW_some] <;> rfl),by (with_reducible repeat(first|apply Kd.R_alloc|apply Kd.R_drewN|apply Kd.R_drew));exact Kd.R_mono HO_15.1 (fun _ hk=>trivial),by repeat(first|(with_reducible first|exact HB.1|apply below_alloc|apply pw_below_drewN|apply below_drew1)|exact HB.1)⟩
      · rw [if_neg c5] at H
        exact absurd H (by simp)
    · rw [if_neg c4] at H
      exact absurd H (by simp)
  · rw [if_neg c3] at H
    exact absurd H (by simp)

end Go.Proofs.Ytefhabkikaadiaa.PFnExactPeriodPolynomial
