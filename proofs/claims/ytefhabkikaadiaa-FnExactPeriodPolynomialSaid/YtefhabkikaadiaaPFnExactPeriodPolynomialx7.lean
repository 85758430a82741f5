/- The functions that the law reaches, as plain functions, each with the proof that the program comes to it; no condition. Written by a program of this session (wip/mp.py) over the printing of the kit; what is marked HAND is told by hand. -/
import Derived.Test.YtefhabkikaadiaaPFnExactPeriodPolynomialx0
import Derived.Test.YtefhabkikaadiaaPFnExactPeriodPolynomialx5
import Derived.Test.YtefhabkikaadiaaPFnExactPeriodPolynomialx6
namespace Go.Proofs.Ytefhabkikaadiaa.PFnExactPeriodPolynomial
open Go.RowKit Go.Proofs.YtefhabkikaadiaaW.PrintWords Go.Proofs.YtefhabkikaadiaaW.PrintLast Go.Proofs.YtefhabkikaadiaaW.PrintMore
attribute [local go_sem] max2_int min2_int max_two min_two max_three min_three max_four min_four   -- for this text's walks alone
set_option linter.unusedVariables false
set_option linter.unusedSimpArgs false

/-! ### impl_periods_times: function 82 -/
mutual
def impl_periods_times.l0:Nat→List Int→List (List Int)→List Int→Int→List Int→Int→Int→Int→Int→Int→List Int→Option (List Int×Int×Int×Int)
  |0,_,_,_,_,_,_,_,_,_,_,_=>none
  |k+1,x2,x7,x8,x9,x35,x36,x37,x1000,x1001,x1002,x1003=>if x37<x36 then (if 0≤x37 then (if x37<(x35.length:Int) then (impl_periods_times.l1 k x2 x7 x8 x9 x37 (rd x35 x37) x35 x36 x37 x2 (x2.length:Int) 0 x1000 x1001 x1002 x1003) else (none)) else (none)) else (some (x8,x1000,x1001,x1002))
def impl_periods_times.l1:Nat→List Int→List (List Int)→List Int→Int→Int→Int→List Int→Int→Int→List Int→Int→Int→Int→Int→Int→List Int→Option (List Int×Int×Int×Int)
  |0,_,_,_,_,_,_,_,_,_,_,_,_,_,_,_,_=>none
  |k+1,x2,x7,x8,x9,x10,x11,x35,x36,x37,x42,x43,x44,x1000,x1001,x1002,x1003=>if x44<x43 then (if 0≤x44 then (if x44<(x42.length:Int) then ((impl_around.f (wrap64 (x44 - x10)) x1001).bind fun t246=>(impl_periods_times.l2 k x2 x7 x8 x9 x10 x11 (rd x42 x44) t246 x35 x36 x37 x42 x43 x44 x1001 0 x1000 x1001 x1002 x1003)) else (none)) else (none)) else (impl_periods_times.l0 k x2 x7 x8 x9 x35 x36 (wrap64 (x37+1)) x1000 x1001 x1002 x1003)
def impl_periods_times.l2:Nat→List Int→List (List Int)→List Int→Int→Int→Int→Int→Int→List Int→Int→Int→List Int→Int→Int→Int→Int→Int→Int→Int→List Int→Option (List Int×Int×Int×Int)
  |0,_,_,_,_,_,_,_,_,_,_,_,_,_,_,_,_,_,_,_,_=>none
  |k+1,x2,x7,x8,x9,x10,x11,x13,x14,x35,x36,x37,x42,x43,x44,x60,x61,x1000,x1001,x1002,x1003=>if x61<x60 then (if 0≤x14 then (if x14<(x7.length:Int) then (if 0≤x61 then (if x61<((rd_L1 x7 x14).length:Int) then (if x14=x9 then (if x1001=0 then (none) else (if 0≤(Int.tmod (wrap64 (x10+x61)) x1001) then (if (Int.tmod (wrap64 (x10+x61)) x1001)<(x8.length:Int) then (impl_periods_times.l2 k x2 x7 (x8.set ((Int.tmod (wrap64 (x10+x61)) x1001):Int).toNat (wrap64 ((rd x8 (Int.tmod (wrap64 (x10+x61)) x1001))+(wrap64 ((wrap64 (x11*x13))*(wrap64 ((rd (rd_L1 x7 x14) x61) - x1002))))))) x9 x10 x11 x13 x14 x35 x36 x37 x42 x43 x44 x60 (wrap64 (x61+1)) x1000 x1001 x1002 x1003) else (none)) else (none))) else (if x1001=0 then (none) else (if 0≤(Int.tmod (wrap64 (x10+x61)) x1001) then (if (Int.tmod (wrap64 (x10+x61)) x1001)<(x8.length:Int) then (impl_periods_times.l2 k x2 x7 (x8.set ((Int.tmod (wrap64 (x10+x61)) x1001):Int).toNat (wrap64 ((rd x8 (Int.tmod (wrap64 (x10+x61)) x1001))+(wrap64 ((wrap64 (x11*x13))*(rd (rd_L1 x7 x14) x61)))))) x9 x10 x11 x13 x14 x35 x36 x37 x42 x43 x44 x60 (wrap64 (x61+1)) x1000 x1001 x1002 x1003) else (none)) else (none)))) else (none)) else (none)) else (none)) else (none)) else (impl_periods_times.l1 k x2 x7 x8 x9 x10 x11 x35 x36 x37 x42 x43 (wrap64 (x44+1)) x1000 x1001 x1002 x1003)
end
def impl_periods_times.f (k:Nat) (s0_0:Int) (s0_1:Int) (s0_2:Int) (s0_3:List Int) (l1:List Int) (l2:List Int):Option (List Int×Int×Int×Int):=(impl_periods_table.f k s0_0 s0_1 s0_2 s0_3).bind fun bt234=>(if 0≤bt234.2.2.1 then (if (bt234.2.2.1:Int).toNat≤35184372088832 then (if 0≤(wrap64 (bt234.2.1 - 1)) then (if (wrap64 (bt234.2.1 - 1))<(s0_3.length:Int) then (impl_periods_times.l0 k l2 bt234.1 (List.replicate (bt234.2.2.1:Int).toNat 0) (rd s0_3 (wrap64 (bt234.2.1 - 1))) l1 (l1.length:Int) 0 bt234.2.1 bt234.2.2.1 bt234.2.2.2 s0_3) else (none)) else (none)) else (none)) else (none))
theorem impl_periods_times.mono_l:∀k,(∀y0 y1 y2 y3 y4 y5 y6 y7 y8 y9 y10,LeO (impl_periods_times.l0 k y0 y1 y2 y3 y4 y5 y6 y7 y8 y9 y10) (impl_periods_times.l0 (k+1) y0 y1 y2 y3 y4 y5 y6 y7 y8 y9 y10))∧(∀y0 y1 y2 y3 y4 y5 y6 y7 y8 y9 y10 y11 y12 y13 y14 y15,LeO (impl_periods_times.l1 k y0 y1 y2 y3 y4 y5 y6 y7 y8 y9 y10 y11 y12 y13 y14 y15) (impl_periods_times.l1 (k+1) y0 y1 y2 y3 y4 y5 y6 y7 y8 y9 y10 y11 y12 y13 y14 y15))∧(∀y0 y1 y2 y3 y4 y5 y6 y7 y8 y9 y10 y11 y12 y13 y14 y15 y16 y17 y18 y19,LeO (impl_periods_times.l2 k y0 y1 y2 y3 y4 y5 y6 y7 y8 y9 y10 y11 y12 y13 y14 y15 y16 y17 y18 y19) (impl_periods_times.l2 (k+1) y0 y1 y2 y3 y4 y5 y6 y7 y8 y9 y10 y11 y12 y13 y14 y15 y16 y17 y18 y19))
  |0=>⟨fun _ _ _ _ _ _ _ _ _ _ _ r h=>by simp [impl_periods_times.l0] at h,fun _ _ _ _ _ _ _ _ _ _ _ _ _ _ _ _ r h=>by simp [impl_periods_times.l1] at h,fun _ _ _ _ _ _ _ _ _ _ _ _ _ _ _ _ _ _ _ _ r h=>by simp [impl_periods_times.l2] at h⟩
  |k+1=>by
    obtain⟨ih0,ih1,ih2⟩:=impl_periods_times.mono_l k;refine⟨?_,?_,?_⟩
    · intro y0 y1 y2 y3 y4 y5 y6 y7 y8 y9 y10
      unfold impl_periods_times.l0;repeat' first
      |(with_reducible exact ih0 _ _ _ _ _ _ _ _ _ _ _)
      |(with_reducible exact ih1 _ _ _ _ _ _ _ _ _ _ _ _ _ _ _ _)
      |(with_reducible exact ih2 _ _ _ _ _ _ _ _ _ _ _ _ _ _ _ _ _ _ _ _)
      |(with_reducible exact impl_periods_table.mono _ _ _ _ _)
      |(with_reducible exact LeO.refl _)
      |(with_reducible exact LeO.none _)
      |(with_reducible refine LeO.ite ?_ ?_)
      |(with_reducible refine LeO.bind ?_ (fun _=>?_))
      |exact ih0 _ _ _ _ _ _ _ _ _ _ _
      |exact ih1 _ _ _ _ _ _ _ _ _ _ _ _ _ _ _ _
      |exact ih2 _ _ _ _ _ _ _ _ _ _ _ _ _ _ _ _ _ _ _ _
      |exact impl_periods_table.mono _ _ _ _ _
      |exact LeO.none _
      |refine LeO.ite ?_ ?_
      |refine LeO.bind ?_ (fun _=>?_)
    · intro y0 y1 y2 y3 y4 y5 y6 y7 y8 y9 y10 y11 y12 y13 y14 y15
      unfold impl_periods_times.l1;repeat' first
      |(with_reducible exact ih0 _ _ _ _ _ _ _ _ _ _ _)
      |(with_reducible exact ih1 _ _ _ _ _ _ _ _ _ _ _ _ _ _ _ _)
      |(with_reducible exact ih2 _ _ _ _ _ _ _ _ _ _ _ _ _ _ _ _ _ _ _ _)
      |(with_reducible exact impl_periods_table.mono _ _ _ _ _)
      |(with_reducible exact LeO.refl _)
      |(with_reducible exact LeO.none _)
      |(with_reducible refine LeO.ite ?_ ?_)
      |(with_reducible refine LeO.bind ?_ (fun _=>?_))
      |exact ih0 _ _ _ _ _ _ _ _ _ _ _
      |exact ih1 _ _ _ _ _ _ _ _ _ _ _ _ _ _ _ _
      |exact ih2 _ _ _ _ _ _ _ _ _ _ _ _ _ _ _ _ _ _ _ _
      |exact impl_periods_table.mono _ _ _ _ _
      |exact LeO.none _
      |refine LeO.ite ?_ ?_
      |refine LeO.bind ?_ (fun _=>?_)
    · intro y0 y1 y2 y3 y4 y5 y6 y7 y8 y9 y10 y11 y12 y13 y14 y15 y16 y17 y18 y19
      unfold impl_periods_times.l2;repeat' first
      |(with_reducible exact ih0 _ _ _ _ _ _ _ _ _ _ _)
      |(with_reducible exact ih1 _ _ _ _ _ _ _ _ _ _ _ _ _ _ _ _)
      |(with_reducible exact ih2 _ _ _ _ _ _ _ _ _ _ _ _ _ _ _ _ _ _ _ _)
      |(with_reducible exact impl_periods_table.mono _ _ _ _ _)
      |(with_reducible exact LeO.refl _)
      |(with_reducible exact LeO.none _)
      |(with_reducible refine LeO.ite ?_ ?_)
      |(with_reducible refine LeO.bind ?_ (fun _=>?_))
      |exact ih0 _ _ _ _ _ _ _ _ _ _ _
      |exact ih1 _ _ _ _ _ _ _ _ _ _ _ _ _ _ _ _
      |exact ih2 _ _ _ _ _ _ _ _ _ _ _ _ _ _ _ _ _ _ _ _
      |exact impl_periods_table.mono _ _ _ _ _
      |exact LeO.none _
      |refine LeO.ite ?_ ?_
      |refine LeO.bind ?_ (fun _=>?_)
theorem impl_periods_times.mono:∀a0 a1 a2 a3 a4 a5 k,LeO (impl_periods_times.f k a0 a1 a2 a3 a4 a5) (impl_periods_times.f (k+1) a0 a1 a2 a3 a4 a5):=by
  intro a0 a1 a2 a3 a4 a5 k;obtain⟨ih0,ih1,ih2⟩:=impl_periods_times.mono_l k;unfold impl_periods_times.f;repeat' first
      |(with_reducible exact ih0 _ _ _ _ _ _ _ _ _ _ _)
      |(with_reducible exact ih1 _ _ _ _ _ _ _ _ _ _ _ _ _ _ _ _)
      |(with_reducible exact ih2 _ _ _ _ _ _ _ _ _ _ _ _ _ _ _ _ _ _ _ _)
      |(with_reducible exact impl_periods_table.mono _ _ _ _ _)
      |(with_reducible exact LeO.refl _)
      |(with_reducible exact LeO.none _)
      |(with_reducible refine LeO.ite ?_ ?_)
      |(with_reducible refine LeO.bind ?_ (fun _=>?_))
      |exact ih0 _ _ _ _ _ _ _ _ _ _ _
      |exact ih1 _ _ _ _ _ _ _ _ _ _ _ _ _ _ _ _
      |exact ih2 _ _ _ _ _ _ _ _ _ _ _ _ _ _ _ _ _ _ _ _
      |exact impl_periods_table.mono _ _ _ _ _
      |exact LeO.none _
      |refine LeO.ite ?_ ?_
      |refine LeO.bind ?_ (fun _=>?_)
theorem impl_periods_table.state_l:∀k,(∀y0 y1 y2 a b c d r,impl_periods_table.l0 k y0 y1 y2 a b c d=some r→r.2=(a,b,c))∧(∀y0 y1 a b c d r,impl_periods_table.l1 k y0 y1 a b c d=some r→r.2=(a,b,c))
  |0=>⟨fun _ _ _ _ _ _ _ _ h=>by simp [impl_periods_table.l0] at h,fun _ _ _ _ _ _ _ h=>by simp [impl_periods_table.l1] at h⟩
  |k+1=>by
    obtain⟨ih0,ih1⟩:=impl_periods_table.state_l k;refine⟨fun y0 y1 y2 a b c d r h=>?_,fun y0 y1 a b c d r h=>?_⟩
    · unfold impl_periods_table.l0 at h
      repeat' split at h
      all_goals first|exact ih0 _ _ _ _ _ _ _ _ h|exact ih1 _ _ _ _ _ _ _ h|cases h
    · unfold impl_periods_table.l1 at h
      repeat' split at h
      all_goals first|exact ih1 _ _ _ _ _ _ _ h|(cases h;rfl)|cases h
theorem impl_periods_table.state {k:Nat} {a b c:Int} {d:List Int} {T:List (List Int)} {a' b' c':Int} (h:impl_periods_table.f k a b c d=some (T,a',b',c')):a'=a∧b'=b∧c'=c:=by
  unfold impl_periods_table.f at h;repeat' split at h
  · have:=(impl_periods_table.state_l k).1 _ _ _ _ _ _ _ _ h
    simpa using this
  · cases h
  · cases h
set_option maxHeartbeats 8000000 in
set_option maxRecDepth 100000 in
theorem impl_periods_times.calls (k:Nat) (g:Nat) (s0_0:Int) (s0_1:Int) (s0_2:Int) (s0_3:List Int) (A1:Option Addr) (c1:Nat) (l1:List Int) (A2:Option Addr) (c2:Nat) (l2:List Int) (r1:List Int) (r2:Int) (r3:Int) (r4:Int) (w0 w:World) (hI:IsS97 w0 w g s0_0 s0_1 s0_2 s0_3) (hB:Below w0.heap.size w0 w) (hr1:Kd.C (Kd.int .i64) w A1 l1.length l1) (hc1:l1.length≤c1) (hf1:∀ad,A1=some ad→0<l1.length→ad.block≠g) (hr2:Kd.C (Kd.int .i64) w A2 l2.length l2) (hc2:l2.length≤c2) (hf2:∀ad,A2=some ad→0<l2.length→ad.block≠g) (h:impl_periods_times.f k s0_0 s0_1 s0_2 s0_3 l1 l2=some (r1,r2,r3,r4)):
    Calls Try.prog 82 #[.pointer (some ⟨g,0,none⟩),.slice A1 l1.length c1,.slice A2 l2.length c2] w fun e w'=>∃v0_:Value,e=.returned (v0_)∧Kd.R (Kd.int .i64) 2 w' w.heap.size (fun _=>True) v0_ r1∧IsS97 w0 w' g r2 r3 r4 s0_3∧Below w0.heap.size w0 w'∧HKeep w w' g none:=by
  have HR1:=qAm hr1;have HC1:=qAm hc1;clear hr1 hc1;have HR2:=qAm hr2;have HC2:=qAm hc2;clear hr2 hc2;have HI0:=qAm hI;have HK:=qAm (HKeep.refl w g none);have HL:=qAm hB.size;clear hI;have HW0:=qAm hB.size;have HB:=qAm hB;clear hB;have H:((impl_periods_table.f k s0_0 s0_1 s0_2 s0_3).bind fun bt234=>(if 0≤bt234.2.2.1 then (if (bt234.2.2.1:Int).toNat≤35184372088832 then (if 0≤(wrap64 (bt234.2.1 - 1)) then (if (wrap64 (bt234.2.1 - 1))<(s0_3.length:Int) then (impl_periods_times.l0 k l2 bt234.1 (List.replicate (bt234.2.2.1:Int).toNat 0) (rd s0_3 (wrap64 (bt234.2.1 - 1))) l1 (l1.length:Int) 0 bt234.2.1 bt234.2.2.1 bt234.2.2.2 s0_3) else (none)) else (none)) else (none)) else (none)))=some (r1,r2,r3,r4):=h;clear h;replace H:=qOb H;obtain⟨⟨t234,t237,t238,t239⟩,A40,H⟩:=H;replace H:(if 0≤t238 then (if (t238:Int).toNat≤35184372088832 then (if 0≤(wrap64 (t237 - 1)) then (if (wrap64 (t237 - 1))<(s0_3.length:Int) then (impl_periods_times.l0 k l2 t234 (List.replicate (t238:Int).toNat 0) (rd s0_3 (wrap64 (t237 - 1))) l1 (l1.length:Int) 0 t237 t238 t239 s0_3) else (none)) else (none)) else (none)) else (none))=some (r1,r2,r3,r4):=H;have A4:=qAm A40;clear A40
  by_cases c5:0≤t238
  · rw [if_pos c5] at H
    have c5b0:=eq_true c5;have c5b1:decide (0≤t238)=true:=decide_eq_true c5;clear c5
    by_cases c6:(t238:Int).toNat≤35184372088832
    · rw [if_pos c6] at H
      have c6b0:=eq_true c6;have c6b1:decide ((t238:Int).toNat≤35184372088832)=true:=decide_eq_true c6;clear c6;obtain⟨y240,hy240⟩:∃y_:List Int,y_=(List.replicate (t238:Int).toNat 0):=⟨_,rfl⟩
      replace H:(if 0≤(wrap64 (t237 - 1)) then (if (wrap64 (t237 - 1))<(s0_3.length:Int) then (impl_periods_times.l0 k l2 t234 y240 (rd s0_3 (wrap64 (t237 - 1))) l1 (l1.length:Int) 0 t237 t238 t239 s0_3) else (none)) else (none))=some (r1,r2,r3,r4):=by first|(rw [hy240];with_reducible exact H)|(have H2_:=(Option.bind_some _ _).symm.trans H;rw [hy240];with_reducible exact H2_)|(have H2_:=(Option.bind_some _ _).symm.trans H;with_reducible exact H2_)|with_reducible exact H|(rw [hy240];exact H)|exact H
      have Ny240:=qAm hy240;clear hy240;obtain⟨ji7,hji7⟩:∃j_:Int,(wrap64 (t237 - 1))=j_:=⟨_,rfl⟩
      replace H:(if 0≤(ji7) then (if (ji7)<(s0_3.length:Int) then (impl_periods_times.l0 k l2 t234 y240 (rd s0_3 (ji7)) l1 (l1.length:Int) 0 t237 t238 t239 s0_3) else (none)) else (none))=some (r1,r2,r3,r4):=by first|(rw [hji7] at H;exact H)|(simp only [hji7] at H ⊢;exact H)
      (try rw [hji7] at A4)
      have hji7w:(IntKind.i64.wrap (t237 - 1))=ji7:=(i64_w _).trans hji7
      by_cases c8:0≤(ji7)
      · rw [if_pos c8] at H
        have c8b0:decide (0≤(ji7))=true:=decide_eq_true c8;clear c8
        by_cases c9:(ji7)<(s0_3.length:Int)
        · rw [if_pos c9] at H
          have c9b0:decide ((ji7)<(s0_3.length:Int))=true:=decide_eq_true c9;clear c9;have H':=qAm H;clear H;go_enter Try.func82,Try.ntmps82;obtain⟨e215,e216,e217⟩:=impl_periods_table.state A4.1;subst e215;subst e216;subst e217;have HI00:=HI0;obtain⟨ASz11_3,cSz11_3,HGz11,hgz11,HSz11_3⟩:=HI0.1;have hcz11_1:w.drew.cell? ⟨g,1,none⟩=some (.int .i64 t238):=cellS97_1 HGz11;clear HGz11 hgz11 HSz11_3;try go_wp2
          have n0_:=qAm (below_drew1 HB.1);have n1_:=qAm (hka_drew HK.1);have n2_:=qAm (IsS97.drew HI0.1);clear HB HK HI0;have HB:=n0_;have HK:=n1_;have HI0:=n2_;clear n0_ n1_ n2_;refine start_ (n:=9) (S:=fun w'=>w'.cell? ⟨g,1,none⟩=some (.int .i64 t238)) (ds:=[]) #[false,false,false,false,false,false,false,false,false] (by kernel_rfl) rfl rfl hcz11_1 (fun hHeld=>?_);clear hcz11_1;generalize w.drew=w13 at HB HK HI0 hHeld ⊢;refine pure_ (i:=0) (N:=some 17) (v:=?_) (a':=?_) #[true,false,false,false,false,false,false,false,false] rfl rfl (by kernel_rfl) (fun _ _ _ h=>h) (Or.inl ⟨by rfl,?_⟩) ?_ ?_;rotate_left
          · intro w'
            go_simp;with_reducible rfl
          rotate_left
          · simp only [Act.put,qSa,qSb,qSc,i64_w,i32_w]
            rfl
          refine pure_ (i:=2) (N:=some 19) (v:=?_) (a':=?_) #[true,false,true,false,false,false,false,false,false] rfl rfl (by kernel_rfl) (fun _ _ _ h=>h) (Or.inl ⟨by rfl,?_⟩) ?_ ?_;rotate_left
          · intro w'
            go_simp;with_reducible rfl
          rotate_left
          · simp only [Act.put,qSa,qSb,qSc,i64_w,i32_w]
            rfl
          refine pure_ (i:=3) (N:=some 20) (v:=?_) (a':=?_) #[true,false,true,true,false,false,false,false,false] rfl rfl (by kernel_rfl) (fun _ _ _ h=>h) (Or.inl ⟨by rfl,?_⟩) ?_ ?_;rotate_left
          · intro w'
            go_simp;with_reducible rfl
          rotate_left
          · simp only [Act.put,qSa,qSb,qSc,i64_w,i32_w]
            rfl
          refine pure_ (i:=4) (N:=some 21) (v:=?_) (a':=?_) #[true,false,true,true,true,false,false,false,false] rfl rfl (by kernel_rfl) (fun _ _ _ h=>h) (Or.inl ⟨by rfl,?_⟩) ?_ ?_;rotate_left
          · intro w'
            go_simp;with_reducible rfl
          rotate_left
          · simp only [Act.put,qSa,qSb,qSc,i64_w,i32_w]
            rfl
          refine take_ (i:=5) (N:=some 22) (v:=?_) (a':=?_) #[true,false,true,true,true,true,false,false,false] rfl rfl (by kernel_rfl) (fun _ _ _ h=>h) (Or.inl ⟨by rfl,?_⟩) hHeld ?_ ?_;rotate_left
          · intro w' s0
            go_simp;with_reducible rfl
          rotate_left
          · simp only [Act.put,qSa,qSb,qSc,i64_w,i32_w]
            rfl
          refine join_ (σ:=Value×Value) 1 #[true,true,true,true,true,true,true,true,false] (fun s_=>[(18,s_.1),(23,s_.2),(7,s_.1)]) (fun s_ w'=>(Kd.S (Kd.slice 2 (Kd.int .i64)) 22 w' w.heap.size (fun k_=>some k_≠(s_.2:Value).ownBlock) s_.1 t234)∧(Kd.R (Kd.int .i64) 2 w' w.heap.size (fun _=>True) s_.2 y240)∧IsS97 w0 w' g t237 t238 t239 s0_3∧HKeep w w' g none∧(Below w0.heap.size w0 w')) ?_ ?_;rotate_left
          · intro hCont
            refine two_ (i:=1) (j:=6) (Ni:=some 18) (Nj:=some 23) #[true,true,true,true,true,true,false,false,false] #[true,false,true,true,true,true,true,false,false] rfl rfl rfl rfl (by kernel_rfl) (by decide) (by decide) (fun K hK=>?_) (fun K hK=>?_)
            · skip
              refine goes_ Try.func92 (by kernel_rfl) rfl #[.pointer (some ⟨g,0,none⟩)] (by rfl) rfl rfl qB15 ?_;with_reducible refine(impl_periods_table.calls k g t237 t238 t239 s0_3 t234 t237 t238 t239 w0 _ HI0.1 HB.1 A4.1).mono ?_
              rintro e w14 ⟨v143,rfl,ho0,hi,hb,hk⟩;refine⟨_,rfl,?_⟩;have n0_:=qAm (Kd.S_lower ho0 (hka_size HK.1));have n1_:=qAm (HKeep.trans HK.1 hk (.inl rfl));clear HB HK HI0;have HO144:=n0_;have HK:=n1_;have HB:=qAm hb;have HI0:=qAm hi;clear n0_ n1_ hb hk hi ho0;have hH2:w14.cell? ⟨g,1,none⟩=some (.int .i64 t238):=by
                obtain⟨_,_,HGz,_,_⟩:=HI0.1;exact cellS97_1 HGz
              refine hK.out _ _ hH2 (fun hHeld=>?_);clear hK K hH2;refine norm_ (a':=?_) ?_ ?_;rotate_left
              · show Act.put _ (some 18) _=_
                simp only [Act.put,qSa,qSb,qSc,i64_w,i32_w];rfl
              refine pure_ (i:=7) (N:=some 7) (v:=?_) (a':=?_) #[true,true,true,true,true,true,false,true,false] rfl rfl (by kernel_rfl) (fun _ _ _ h=>h) (Or.inl ⟨by rfl,?_⟩) ?_ ?_;rotate_left
              · intro w'
                go_simp;with_reducible rfl
              rotate_left
              · simp only [Act.put,qSa,qSb,qSc,i64_w,i32_w]
                rfl
              refine one_ (i:=6) (N:=some 23) #[true,true,true,true,true,true,true,true,false] rfl rfl (by kernel_rfl) (by decide) (fun K hK=>?_);refine Kd.R_make_step (Kd.int .i64) _ 2 (by rfl) (N:=23) rfl 22 _ _ rfl t238 rfl rfl Try.underlying22 (.int .i64 0) 8 info2 rfl (by decide) (by omega) 0 (ok:=fun _=>True) (okp:=fun _=>True) rfl (fun _ hk=>hk) trivial (of_decide_eq_true qB46) (Nat.le_trans (Nat.mul_le_mul_right _ (of_decide_eq_true qB46:t238.toNat≤35184372088832)) (by omega)) (Below.refl _ _) (Nat.le_refl _) ?_;intro v146 w15 ho16 hb hg_ hnew_;clear hg_ hnew_
              (first|rw [← Ny240.1] at ho16|(simp only [Int.reduceToNat] at ho16;rw [← Ny240.1] at ho16))
              have n0_:=qAm (Kd.S_elder' HO144.1 (Kd.R_base ho16) hb);have n1_:=qAm (Kd.R_lower ho16 (hka_size HK.1));have n2_:=qAm (IsS97.below HI0.1 hb);have n3_:=qAm (HKeep.trans HK.1 (HKeep.of_below hb g none) (.inl rfl));have n4_:=qAm (below_step HB.1 hb);clear HO144 HI0 HK HB;have HO144:=n0_;have HO147:=n1_;have HI0:=n2_;have HK:=n3_;have HB:=n4_;clear n0_ n1_ n2_ n3_ n4_ hb ho16;have hH2:w15.cell? ⟨g,1,none⟩=some (.int .i64 t238):=by
                obtain⟨_,_,HGz,_,_⟩:=HI0.1;exact cellS97_1 HGz
              refine hK.out _ _ hH2 (fun hHeld=>?_);clear hK K;refine norm_ (a':=?_) ?_ ?_;rotate_left
              · show Act.put _ (some 23) _=_
                simp only [Act.put,qSa,qSb,qSc,i64_w,i32_w];rfl
              exact norm_ qB45 (hCont (v143,v146) _ ⟨Kd.S_mono HO144.1 (fun _ hk=>hk.2),HO147.1,HI0.1,HK.1,HB.1⟩)
            · skip
              refine Kd.R_make_step (Kd.int .i64) _ 2 (by rfl) (N:=23) rfl 22 _ _ rfl t238 rfl rfl Try.underlying22 (.int .i64 0) 8 info2 rfl (by decide) (by omega) 0 (ok:=fun _=>True) (okp:=fun _=>True) rfl (fun _ hk=>hk) trivial (of_decide_eq_true qB46) (Nat.le_trans (Nat.mul_le_mul_right _ (of_decide_eq_true qB46:t238.toNat≤35184372088832)) (by omega)) (Below.refl _ _) (Nat.le_refl _) ?_;intro v146 w14 ho15 hb hg_ hnew_;clear hg_ hnew_
              (first|rw [← Ny240.1] at ho15|(simp only [Int.reduceToNat] at ho15;rw [← Ny240.1] at ho15))
              have n1_:=qAm (Kd.R_lower ho15 (hka_size HK.1));have n2_:=qAm (IsS97.below HI0.1 hb);have n3_:=qAm (HKeep.trans HK.1 (HKeep.of_below hb g none) (.inl rfl));have n4_:=qAm (below_step HB.1 hb);clear HI0 HK HB;have HO147:=n1_;have HI0:=n2_;have HK:=n3_;have HB:=n4_;clear n1_ n2_ n3_ n4_ hb ho15;have hH2:w14.cell? ⟨g,1,none⟩=some (.int .i64 t238):=by
                obtain⟨_,_,HGz,_,_⟩:=HI0.1;exact cellS97_1 HGz
              refine hK.out _ _ hH2 (fun hHeld=>?_);clear hK K hH2;refine norm_ (a':=?_) ?_ ?_;rotate_left
              · show Act.put _ (some 23) _=_
                simp only [Act.put,qSa,qSb,qSc,i64_w,i32_w];rfl
              refine one_ (i:=1) (N:=some 18) #[true,true,true,true,true,true,true,false,false] rfl rfl (by kernel_rfl) (by decide) (fun K hK=>?_);refine goes_ Try.func92 (by kernel_rfl) rfl #[.pointer (some ⟨g,0,none⟩)] (by rfl) rfl rfl qB15 ?_;with_reducible refine(impl_periods_table.calls k g t237 t238 t239 s0_3 t234 t237 t238 t239 w0 _ HI0.1 HB.1 A4.1).mono ?_
              rintro e w16 ⟨v143,rfl,ho0,hi,hb,hk⟩;refine⟨_,rfl,?_⟩;have hgne:∀k_,w.heap.size≤k_→k_≠g:=fun k_ hk_=>by
                obtain⟨_,_,HGz,_,_⟩:=HI00.1;have:=blk_lt HGz
                omega
              have n0_:=qAm (Kd.R_mono (Kd.R_keep (Kd.R_mono (Kd.R_bound HO147.1) (ok':=fun k_=>k_≠g) (fun _ hk_=>hgne _ hk_.2.1)) hk.k (fun _ hk_=>hk_)) (ok':=fun _=>True) (fun _ _=>trivial));have n1_:=qAm (Kd.S_lower (Kd.S_new' ho0 (Kd.R_lt HO147.1)) (hka_size HK.1));have n2_:=qAm (HKeep.trans HK.1 hk (.inl rfl));clear HO147 HB HK HI0;have HO147:=n0_;have HO144:=n1_;have HK:=n2_;have HB:=qAm hb;have HI0:=qAm hi;clear n0_ n1_ n2_ hb hk hi ho0;have hH2:w16.cell? ⟨g,1,none⟩=some (.int .i64 t238):=by
                obtain⟨_,_,HGz,_,_⟩:=HI0.1;exact cellS97_1 HGz
              refine hK.out _ _ hH2 (fun hHeld=>?_);clear hK K;refine norm_ (a':=?_) ?_ ?_;rotate_left
              · show Act.put _ (some 18) _=_
                simp only [Act.put,qSa,qSb,qSc,i64_w,i32_w];rfl
              refine pure_ (i:=7) (N:=some 7) (v:=?_) (a':=?_) #[true,true,true,true,true,true,true,true,false] rfl rfl (by kernel_rfl) (fun _ _ _ h=>h) (Or.inl ⟨by rfl,?_⟩) ?_ ?_;rotate_left
              · intro w'
                go_simp;with_reducible rfl
              rotate_left
              · simp only [Act.put,qSa,qSb,qSc,i64_w,i32_w]
                rfl
              exact norm_ qB45 (hCont (v143,v146) _ ⟨Kd.S_mono HO144.1 (fun _ hk=>hk.2),HO147.1,HI0.1,HK.1,HB.1⟩)
          rintro⟨v235,v241⟩ w17 ⟨h0_,h1_,h2_,h3_,h4_⟩;have HO236:Aside0 (Kd.S (Kd.slice 2 (Kd.int .i64)) 22 w17 w.heap.size (fun k_=>True∧some k_≠(v241:Value).ownBlock) v235 t234):=⟨Kd.S_mono h0_ (fun _ hk=>⟨trivial,hk⟩)⟩
          have HO242:Aside0 (Kd.R (Kd.int .i64) 2 w17 w.heap.size (fun _=>True) v241 y240):=⟨h1_⟩
          clear HB HK HI0 hHeld HI00;have HI0:=qAm h2_;have HK:=qAm h3_;have HB:=qAm h4_;clear h0_ h1_ h2_ h3_ h4_;obtain⟨ASz14_3,cSz14_3,HGz14,hgz14,HSz14_3⟩:=HI0.1;have hHeld:w17.cell? ⟨g,1,none⟩=some (.int .i64 t238):=cellS97_1 HGz14;refine norm_ (a':=?_) ?_ ?_;rotate_left
          · simp only [putAll,Act.put,qSa,qSb,qSc]
            rfl
          refine pure_ (i:=8) (N:=some 8) (v:=?_) (a':=?_) #[true,true,true,true,true,true,true,true,true] rfl rfl (by kernel_rfl) (fun _ _ _ h=>h) (Or.inl ⟨by rfl,?_⟩) ?_ ?_;rotate_left
          · intro w'
            go_simp;with_reducible rfl
          rotate_left
          · simp only [Act.put,qSa,qSb,qSc,i64_w,i32_w]
            rfl
          refine done_ (by kernel_rfl) ?_;clear hHeld;have hcz14_0:=cellS97_0 HGz14;have hcz14_3:=cellS97_3 HGz14;clear HGz14 hgz14;have p221:0≤ji7:=of_decide_eq_true qB46;have q221:ji7<(s0_3.length:Int):=of_decide_eq_true qB46;obtain⟨ad221,e221,hx221_0⟩:=Kd.at_int HSz14_3 ji7 p221 q221;cases e221
          replace hx221_0:=pw_cell_below HB.1 hx221_0;replace p221:=eq_true p221;replace q221:=eq_true q221;try go_wp2
          go_quiet (fail);go_wp2;try simp only [Act.put,qSa,qSc,qSb]
          go_loopg [37] k (fun kq v37 w'=>∃(x8_1:List Int) (x37_1:Int),v37=.int .i64 x37_1∧Aside0 (impl_periods_times.l0 kq l2 t234 x8_1 (rd s0_3 (ji7)) l1 (l1.length:Int) x37_1 t237 t238 t239 s0_3=some (r1,r2,r3,r4))∧Aside0 (kq≤k)∧Aside0 (Kd.S (Kd.slice 2 (Kd.int .i64)) 22 w' w.heap.size (fun k_=>some k_≠(v241:Value).ownBlock) v235 t234)∧Aside0 (Kd.R (Kd.int .i64) 2 w' w.heap.size (fun _=>True) v241 x8_1)∧Aside0 (IsS97 w0 w' g t237 t238 t239 s0_3)∧Aside0 (HKeep w w' g none)∧Aside0 (Below w0.heap.size w0 w'))
          case atStart=>exact⟨(y240),(0),qB47,H',⟨Nat.le_refl _⟩,⟨by (with_reducible repeat(first|apply Kd.S_alloc|apply Kd.S_drewN|apply Kd.S_drew));exact Kd.S_mono HO236.1 (fun _ hk=>hk.2)⟩,⟨by (with_reducible repeat(first|apply Kd.R_alloc|apply Kd.R_drewN|apply Kd.R_drew));exact HO242.1⟩,⟨by repeat(first|(with_reducible first|exact HI0.1|apply IsS97.alloc|apply IsS97.drewN|apply IsS97.drew|apply IsS97.set_0|apply IsS97.set_1|apply IsS97.set_2)|exact HI0.1)⟩,⟨by repeat(first|(with_reducible first|exact HK.1|apply hka_drewN|apply hka_drew|apply hka_alloc)|exact HK.1)⟩,⟨by repeat(first|(with_reducible first|exact HB.1|apply below_alloc|apply pw_below_drewN|apply below_drew1|refine below_set ?_ (IsS97.ge HI0.1))|exact HB.1)⟩⟩
          case round=>
            clear H';try clear c1
            try clear c2
            try clear p2
            try clear q2
            try clear hx2
            try clear c5
            try clear c5b0
            try clear c5b1
            try clear c6
            try clear c6b0
            try clear c6b1
            try clear p6
            try clear c8
            try clear c8b0
            try clear c9
            try clear c9b0
            try clear hcz11_0
            try clear hcz11_1
            try clear hcz11_2
            try clear hcz11_3
            try clear hcz14_0
            try clear hcz14_1
            try clear hcz14_2
            try clear hcz14_3
            try clear hfz11_0
            try clear hfz11_1
            try clear hfz11_2
            try clear hfz14_0
            try clear hfz14_1
            try clear hfz14_2
            try clear hx243_0
            try clear p243
            try clear q243
            obtain⟨x8_1,x37_1,rfl,HA,HK1,HO_7,HO_8,HI0,HK,HB⟩:=hrel;cases gk with
            |zero=>exact absurd HA.1 (by simp [impl_periods_times.l0])
            |succ k1=>
              have H:=HA.1;clear HA;simp only [impl_periods_times.l0] at H
              by_cases c15:x37_1<(l1.length:Int)
              · rw [if_pos c15] at H
                have c15b0:decide (x37_1<(l1.length:Int))=true:=decide_eq_true c15;clear c15
                by_cases c16:0≤x37_1
                · rw [if_pos c16] at H
                  have c16b0:decide (0≤x37_1)=true:=decide_eq_true c16;clear c16
                  by_cases c17:x37_1<(l1.length:Int)
                  · rw [if_pos c17] at H
                    have c17b0:decide (x37_1<(l1.length:Int))=true:=decide_eq_true c17;clear c17;have H':=qAm H;clear H;have p244:0≤(x37_1:Int):=of_decide_eq_true qB46;have q244:x37_1<(l1.length:Int):=of_decide_eq_true qB46;obtain⟨ad244,e244,hx244_0⟩:=Kd.at_int HR1.1 x37_1 p244 q244;cases e244
                    replace hx244_0:=hka_cell HK.1 hx244_0 (by first|(rw [add_block];exact hf1 _ rfl (by omega))|exact hf1 _ rfl (by omega)|exact hf1 ad244 rfl (by omega));replace p244:=eq_true p244;replace q244:=eq_true q244;go_wp2;try simp only [Act.put,qSa,qSc,qSb]
                    go_loopg [44] k1 (fun kq v44 w'=>∃(x8_2:List Int) (x44_2:Int),v44=.int .i64 x44_2∧Aside0 (impl_periods_times.l1 kq l2 t234 x8_2 (rd s0_3 (ji7)) x37_1 (rd l1 x37_1) l1 (l1.length:Int) x37_1 l2 (l2.length:Int) x44_2 t237 t238 t239 s0_3=some (r1,r2,r3,r4))∧Aside0 (kq≤k1)∧Aside0 (Kd.S (Kd.slice 2 (Kd.int .i64)) 22 w' w.heap.size (fun k_=>some k_≠(v241:Value).ownBlock) v235 t234)∧Aside0 (Kd.R (Kd.int .i64) 2 w' w.heap.size (fun _=>True) v241 x8_2)∧Aside0 (IsS97 w0 w' g t237 t238 t239 s0_3)∧Aside0 (HKeep w w' g none)∧Aside0 (Below w0.heap.size w0 w'))
                    case atStart=>exact⟨(x8_1),(0),qB47,H',⟨Nat.le_refl _⟩,⟨by (with_reducible repeat(first|apply Kd.S_alloc|apply Kd.S_drewN|apply Kd.S_drew));exact HO_7.1⟩,⟨by (with_reducible repeat(first|apply Kd.R_alloc|apply Kd.R_drewN|apply Kd.R_drew));exact HO_8.1⟩,⟨by repeat(first|(with_reducible first|exact HI0.1|apply IsS97.alloc|apply IsS97.drewN|apply IsS97.drew|apply IsS97.set_0|apply IsS97.set_1|apply IsS97.set_2)|exact HI0.1)⟩,⟨by repeat(first|(with_reducible first|exact HK.1|apply hka_drewN|apply hka_drew|apply hka_alloc)|exact HK.1)⟩,⟨by repeat(first|(with_reducible first|exact HB.1|apply below_alloc|apply pw_below_drewN|apply below_drew1|refine below_set ?_ (IsS97.ge HI0.1))|exact HB.1)⟩⟩
                    case round=>
                      clear H';try clear c1
                      try clear c2
                      try clear p2
                      try clear q2
                      try clear hx2
                      try clear c5
                      try clear c5b0
                      try clear c5b1
                      try clear c6
                      try clear c6b0
                      try clear c6b1
                      try clear p6
                      try clear c8
                      try clear c8b0
                      try clear c9
                      try clear c9b0
                      try clear c15
                      try clear c15b0
                      try clear c16
                      try clear c16b0
                      try clear c17
                      try clear c17b0
                      try clear hcz11_0
                      try clear hcz11_1
                      try clear hcz11_2
                      try clear hcz11_3
                      try clear hcz14_0
                      try clear hcz14_1
                      try clear hcz14_2
                      try clear hcz14_3
                      try clear hfz11_0
                      try clear hfz11_1
                      try clear hfz11_2
                      try clear hfz14_0
                      try clear hfz14_1
                      try clear hfz14_2
                      try clear hx243_0
                      try clear hx244_0
                      try clear p2
                      try clear p243
                      try clear p244
                      try clear p6
                      try clear q2
                      try clear q243
                      try clear q244
                      obtain⟨x8_2,x44_2,rfl,HA,HK2,HO_7,HO_8,HI0,HK,HB⟩:=hrel;cases gk with
                      |zero=>exact absurd HA.1 (by simp [impl_periods_times.l1])
                      |succ k2=>
                        have H:=HA.1;clear HA;simp only [impl_periods_times.l1] at H
                        by_cases c18:x44_2<(l2.length:Int)
                        · rw [if_pos c18] at H
                          have c18b0:decide (x44_2<(l2.length:Int))=true:=decide_eq_true c18;clear c18
                          by_cases c19:0≤x44_2
                          · rw [if_pos c19] at H
                            have c19b0:decide (0≤x44_2)=true:=decide_eq_true c19;clear c19
                            by_cases c20:x44_2<(l2.length:Int)
                            · rw [if_pos c20] at H
                              have c20b0:decide (x44_2<(l2.length:Int))=true:=decide_eq_true c20;clear c20;replace H:=qOb H;obtain⟨t246,A210,H⟩:=H;replace H:(impl_periods_times.l2 k2 l2 t234 x8_2 (rd s0_3 (ji7)) x37_1 (rd l1 x37_1) (rd l2 x44_2) t246 l1 (l1.length:Int) x37_1 l2 (l2.length:Int) x44_2 t238 0 t237 t238 t239 s0_3)=some (r1,r2,r3,r4):=H;have A21:=qAm A210;clear A210;have H':=qAm H;clear H;have p245:0≤(x44_2:Int):=of_decide_eq_true qB46;have q245:x44_2<(l2.length:Int):=of_decide_eq_true qB46;obtain⟨ad245,e245,hx245_0⟩:=Kd.at_int HR2.1 x44_2 p245 q245;cases e245
                              replace hx245_0:=hka_cell HK.1 hx245_0 (by first|(rw [add_block];exact hf2 _ rfl (by omega))|exact hf2 _ rfl (by omega)|exact hf2 ad245 rfl (by omega));replace p245:=eq_true p245;replace q245:=eq_true q245;obtain⟨ASz22_3,cSz22_3,HGz22,hgz22,HSz22_3⟩:=HI0.1;have hcz22_0:=cellS97_0 HGz22;have hcz22_1:=cellS97_1 HGz22;have hcz22_2:=cellS97_2 HGz22;have hcz22_3:=cellS97_3 HGz22;have hfz22_0:=blk_frozen HGz22 0;have hfz22_1:=blk_frozen HGz22 1;have hfz22_2:=blk_frozen HGz22 2;clear HGz22 hgz22;go_wp2_with (first|((with_reducible refine gate_callee (f:=88) rfl ?_);refine goesL_ (some 56) rfl rfl Try.func88 (by kernel_rfl) rfl #[.int .i64 (wrap64 (x44_2 - x37_1)),.int .i64 t238] rfl qB15 ?_;(with_reducible refine(impl_around.calls (wrap64 (x44_2 - x37_1)) t238 t246 _ A21.1).mono ?_);rintro e w' ⟨rfl,⟨nd,rfl⟩⟩;refine⟨_,rfl,?_⟩));try simp only [Act.put,qSa,qSc,qSb]
                              go_loopg [61] k2 (fun kq v61 w'=>∃(x8_3:List Int) (x61_3:Int),v61=.int .i64 x61_3∧Aside0 (impl_periods_times.l2 kq l2 t234 x8_3 (rd s0_3 (ji7)) x37_1 (rd l1 x37_1) (rd l2 x44_2) t246 l1 (l1.length:Int) x37_1 l2 (l2.length:Int) x44_2 t238 x61_3 t237 t238 t239 s0_3=some (r1,r2,r3,r4))∧Aside0 (kq≤k2)∧Aside0 (Kd.S (Kd.slice 2 (Kd.int .i64)) 22 w' w.heap.size (fun k_=>some k_≠(v241:Value).ownBlock) v235 t234)∧Aside0 (Kd.R (Kd.int .i64) 2 w' w.heap.size (fun _=>True) v241 x8_3)∧Aside0 (IsS97 w0 w' g t237 t238 t239 s0_3)∧Aside0 (HKeep w w' g none)∧Aside0 (Below w0.heap.size w0 w'))
                              case atStart=>exact⟨(x8_2),(0),qB47,H',⟨Nat.le_refl _⟩,⟨by (with_reducible repeat(first|apply Kd.S_alloc|apply Kd.S_drewN|apply Kd.S_drew));exact HO_7.1⟩,⟨by (with_reducible repeat(first|apply Kd.R_alloc|apply Kd.R_drewN|apply Kd.R_drew));exact HO_8.1⟩,⟨by repeat(first|(with_reducible first|exact HI0.1|apply IsS97.alloc|apply IsS97.drewN|apply IsS97.drew|apply IsS97.set_0|apply IsS97.set_1|apply IsS97.set_2)|exact HI0.1)⟩,⟨by repeat(first|(with_reducible first|exact HK.1|apply hka_drewN|apply hka_drew|apply hka_alloc)|exact HK.1)⟩,⟨by repeat(first|(with_reducible first|exact HB.1|apply below_alloc|apply pw_below_drewN|apply below_drew1|refine below_set ?_ (IsS97.ge HI0.1))|exact HB.1)⟩⟩
                              case round=>
                                clear H';try clear c1
                                try clear c2
                                try clear p2
                                try clear q2
                                try clear hx2
                                try clear c5
                                try clear c5b0
                                try clear c5b1
                                try clear c6
                                try clear c6b0
                                try clear c6b1
                                try clear p6
                                try clear c8
                                try clear c8b0
                                try clear c9
                                try clear c9b0
                                try clear c15
                                try clear c15b0
                                try clear c16
                                try clear c16b0
                                try clear c17
                                try clear c17b0
                                try clear c18
                                try clear c18b0
                                try clear c19
                                try clear c19b0
                                try clear c20
                                try clear c20b0
                                try clear hcz11_0
                                try clear hcz11_1
                                try clear hcz11_2
                                try clear hcz11_3
                                try clear hcz14_0
                                try clear hcz14_1
                                try clear hcz14_2
                                try clear hcz14_3
                                try clear hcz22_0
                                try clear hcz22_1
                                try clear hcz22_2
                                try clear hcz22_3
                                try clear hfz11_0
                                try clear hfz11_1
                                try clear hfz11_2
                                try clear hfz14_0
                                try clear hfz14_1
                                try clear hfz14_2
                                try clear hfz22_0
                                try clear hfz22_1
                                try clear hfz22_2
                                try clear hx243_0
                                try clear hx244_0
                                try clear hx245_0
                                try clear p2
                                try clear p243
                                try clear p244
                                try clear p245
                                try clear p6
                                try clear q2
                                try clear q243
                                try clear q244
                                try clear q245
                                obtain⟨x8_3,x61_3,rfl,HA,HK3,HO_7,HO_8,HI0,HK,HB⟩:=hrel;cases gk with
                                |zero=>exact absurd HA.1 (by simp [impl_periods_times.l2])
                                |succ k3=>
                                  have H:=HA.1;clear HA;simp only [impl_periods_times.l2] at H
                                  by_cases c23:x61_3<t238
                                  · rw [if_pos c23] at H
                                    have c23b0:decide (x61_3<t238)=true:=decide_eq_true c23;clear c23
                                    by_cases c24:0≤t246
                                    · rw [if_pos c24] at H
                                      have c24b0:decide (0≤t246)=true:=decide_eq_true c24;clear c24
                                      by_cases c25:t246<(t234.length:Int)
                                      · rw [if_pos c25] at H
                                        have c25b0:decide (t246<(t234.length:Int))=true:=decide_eq_true c25;clear c25
                                        by_cases c26:0≤x61_3
                                        · rw [if_pos c26] at H
                                          have c26b0:decide (0≤x61_3)=true:=decide_eq_true c26;clear c26
                                          by_cases c27:x61_3<((rd_L1 t234 t246).length:Int)
                                          · rw [if_pos c27] at H
                                            have c27b0:decide (x61_3<((rd_L1 t234 t246).length:Int))=true:=decide_eq_true c27;clear c27
                                            by_cases c28:t246=(rd s0_3 (ji7))
                                            · rw [if_pos c28] at H
                                              have c28b0:(t246==(rd s0_3 (ji7)))=true:=beq_iff_eq.mpr c28;have c28b1:(t246 !=(rd s0_3 (ji7)))=false:=bne_eq_false_iff_eq.mpr c28;clear c28
                                              by_cases c29:t238=0
                                              · rw [if_pos c29] at H
                                                exact absurd H (by simp)
                                              · rw [if_neg c29] at H
                                                have c29b0:(t238==0)=false:=beq_eq_false_iff_ne.mpr c29;have c29b1:(t238 !=0)=true:=bne_iff_ne.mpr c29;obtain⟨ji30,hji30⟩:∃j_:Int,(Int.tmod (wrap64 (x37_1+x61_3)) t238)=j_:=⟨_,rfl⟩
                                                replace H:(if 0≤(ji30) then (if (ji30)<(x8_3.length:Int) then (impl_periods_times.l2 k3 l2 t234 (x8_3.set ((ji30):Int).toNat (wrap64 ((rd x8_3 (ji30))+(wrap64 ((wrap64 ((rd l1 x37_1)*(rd l2 x44_2)))*(wrap64 ((rd (rd_L1 t234 t246) x61_3) - t239))))))) (rd s0_3 (ji7)) x37_1 (rd l1 x37_1) (rd l2 x44_2) t246 l1 (l1.length:Int) x37_1 l2 (l2.length:Int) x44_2 t238 (wrap64 (x61_3+1)) t237 t238 t239 s0_3) else (none)) else (none))=some (r1,r2,r3,r4):=by first|(rw [hji30] at H;exact H)|(simp only [hji30] at H ⊢;exact H)
                                                by_cases c31:0≤(ji30)
                                                · rw [if_pos c31] at H
                                                  have c31b0:decide (0≤(ji30))=true:=decide_eq_true c31;clear c31
                                                  by_cases c32:(ji30)<(x8_3.length:Int)
                                                  · rw [if_pos c32] at H
                                                    have c32b0:decide ((ji30)<(x8_3.length:Int))=true:=decide_eq_true c32;clear c32;obtain⟨y250,hy250⟩:∃y_:List Int,y_=(x8_3.set ((ji30):Int).toNat (wrap64 ((rd x8_3 (ji30))+(wrap64 ((wrap64 ((rd l1 x37_1)*(rd l2 x44_2)))*(wrap64 ((rd (rd_L1 t234 t246) x61_3) - t239))))))):=⟨_,rfl⟩
                                                    replace H:(impl_periods_times.l2 k3 l2 t234 y250 (rd s0_3 (ji7)) x37_1 (rd l1 x37_1) (rd l2 x44_2) t246 l1 (l1.length:Int) x37_1 l2 (l2.length:Int) x44_2 t238 (wrap64 (x61_3+1)) t237 t238 t239 s0_3)=some (r1,r2,r3,r4):=by first|(rw [hy250];with_reducible exact H)|(have H2_:=(Option.bind_some _ _).symm.trans H;rw [hy250];with_reducible exact H2_)|(have H2_:=(Option.bind_some _ _).symm.trans H;with_reducible exact H2_)|with_reducible exact H|(rw [hy250];exact H)|exact H
                                                    have Ny250:=qAm hy250;clear hy250;have H':=qAm H;clear H;obtain⟨Ao34,co34,eo34⟩:=Kd.S_slice HO_7.1;subst eo34;have p247:0≤(t246:Int):=of_decide_eq_true qB46;have q247:t246<(t234.length:Int):=of_decide_eq_true qB46;obtain⟨ad247,A247_0,c247_0,e247,hx247_0,hl247_0,hi247_0⟩:=at_L1 (Kd.S_reads' HO_7.1).2.2 t246 p247 q247;cases e247
                                                    obtain⟨ce247,hce247,hMe247,hcc247⟩:=Kd.S_get HO_7.1 [] t246 p247 qB10;obtain⟨ve247_0,rfl,ge247_0⟩:=hMe247;have hv247_0:=hcc247 0 _ rfl;rw [Nat.add_zero,show((Kd.slice 2 (Kd.int .i64))).sz=1 from rfl,Nat.mul_one] at hv247_0;replace hv247_0:=Option.some.inj (hv247_0.symm.trans hx247_0);rw [hv247_0] at ge247_0;have HL247_0:=qAm (show Kd.R (Kd.int .i64) 2 _ _ _ _ (rd_L1 t234 t246) from ge247_0);clear hv247_0 ge247_0 hcc247 hce247;have HR247_0:=qAm hi247_0;have HC247_0:=qAm hl247_0;clear hi247_0 hl247_0;replace p247:=eq_true p247;replace q247:=eq_true q247;have p248:0≤(x61_3:Int):=of_decide_eq_true qB46;have q248:x61_3<((rd_L1 t234 t246).length:Int):=of_decide_eq_true qB46;obtain⟨ad248,e248,hx248_0⟩:=Kd.at_int qB3 x61_3 p248 q248;cases e248
                                                    replace p248:=eq_true p248;replace q248:=eq_true q248;obtain⟨ASz35_3,cSz35_3,HGz35,hgz35,HSz35_3⟩:=HI0.1;have hcz35_0:=cellS97_0 HGz35;have hcz35_1:=cellS97_1 HGz35;have hcz35_2:=cellS97_2 HGz35;have hcz35_3:=cellS97_3 HGz35;have hfz35_0:=blk_frozen HGz35 0;have hfz35_1:=blk_frozen HGz35 1;have hfz35_2:=blk_frozen HGz35 2;clear HGz35 hgz35;obtain⟨Ao36,co36,eo36⟩:=Kd.R_slice HO_8.1;subst eo36;have p249:0≤((ji30):Int):=of_decide_eq_true qB46;have q249:(ji30)<(x8_3.length:Int):=of_decide_eq_true qB46;obtain⟨ad249,e249,hx249_0⟩:=Kd.at_int (Kd.R_reads' HO_8.1).2.2 (ji30) p249 q249;cases e249
                                                    replace p249:=eq_true p249;replace q249:=eq_true q249;have p33:0≤((ji30):Int):=of_decide_eq_true qB46;have q33:((ji30):Int)<((x8_3.length:Int):Int):=of_decide_eq_true qB46;obtain⟨go33,co33,eo33,gb33,gl33,cl33,HG33⟩:=Kd.R_form HO_8.1 (by omega)
                                                    (first|cases eo33|(injection eo33 with ea_ en_ ec_;(first|subst ea_|(injection ea_ with ea_;subst ea_));subst ec_;clear en_))
                                                    have GB33:=qAm gb33;have GG33:=qAm HG33;clear gb33 gl33 HG33
                                                    (first|simp only [add_plain] at hx249_0|skip)
                                                    obtain⟨hx33_0,hf33_0⟩:=Kd.R_celln 0 HO_8.1 ((ji30):Int) p33 q33;replace p33:=eq_true p33;replace q33:=eq_true q33;have HP37:=Kd.R_putg HO_8.1 ((ji30):Int) (wrap64 ((rd x8_3 (ji30))+(wrap64 ((wrap64 ((rd l1 x37_1)*(rd l2 x44_2)))*(wrap64 ((rd (rd_L1 t234 t246) x61_3) - t239))))));go_wp2_with (first|((with_reducible refine gate_store (t:=2) (p:=97) rfl ?_);refine store_event (t:=2) (p:=97) (v:=?vo_w38) (w1:=(wr.setCell ⟨go33,((ji30):Int).toNat,none⟩ (.int .i64 (wrap64 ((rd x8_3 (ji30))+(wrap64 ((wrap64 ((rd l1 x37_1)*(rd l2 x44_2)))*(wrap64 ((rd (rd_L1 t234 t246) x61_3) - t239))))))))) ?hg ?ho ?hn ?hr ?_;(case ho=>rfl);(case hg=>rfl);(case hn=>rfl);(case hr=>first|(go_simp;done)|(go_simp;rfl));intro w38 hw;have hg:wr.grownBy w38 (some go33):=(by rw [hw];exact HP37.2);have hp_:Kd.R (Kd.int .i64) 2 w38 w.heap.size (fun _=>True) (.slice (some ⟨go33,0,none⟩) x8_3.length co36) y250:=(by rw [hw,Ny250.1];exact HP37.1);clear HP37;have n0_:=qAm (Kd.S_after (v:=(.slice (some ⟨go33,0,none⟩) x8_3.length co36)) (v1:=(.slice (some ⟨go33,0,none⟩) x8_3.length co36)) (ok:=(fun _=>True)) qB12 hg (.inl rfl));have n1_:=qAm (hp_);have n2_:=qAm (IsS97.grown qB4 hg (IsS97.own_ne HI0.1 HO_8.1 (by decide)));have n3_:=qAm (Kd.R_after (v:=(.slice (some ⟨go33,0,none⟩) x8_3.length co36)) (v1:=(.slice (some ⟨go33,0,none⟩) x8_3.length co36)) (ok:=(fun k_=>some k_≠(.slice (some ad247) t234.length co34:Value).ownBlock)) qB11 hg (.inl rfl));have n4_:=qAm ((by rw [hw];exact below_set (HB.1) (Nat.le_trans HL.1 GB33.1):Below w0.heap.size w0 w38));have n5_:=qAm (HKeep.trans qB20 (HKeep.of_grown hg g) (Kd.R_base2 HO_8.1));clear HO_7;clear HO_8;clear HI0;clear HL247_0;clear HB;clear HK;have HO_7:=n0_;have HO_8:=n1_;have HI0:=n2_;have HL247_0:=n3_;have HB:=n4_;have HK:=n5_;clear n0_ n1_ n2_ n3_ n4_ n5_;clear hg hw hp_))
                                                    (first|go_roundg k3|((try simp only [add_plain] at *);go_roundg k3))
                                                    case measure=>have:=HK1.1;have:=HK2.1;have:=HK3.1;omega
                                                    case rel=>exact⟨(y250),(wrap64 (x61_3+1)),qB47,H',⟨by have:=HK1.1;have:=HK2.1;have:=HK3.1;omega⟩,⟨by (with_reducible repeat(first|apply Kd.S_alloc|apply Kd.S_drewN|apply Kd.S_drew));exact Kd.S_mono HO_7.1 (fun _ hk=>hk.2)⟩,⟨by (with_reducible repeat(first|apply Kd.R_alloc|apply Kd.R_drewN|apply Kd.R_drew));exact HO_8.1⟩,⟨by repeat(first|(with_reducible first|exact HI0.1|apply IsS97.alloc|apply IsS97.drewN|apply IsS97.drew|apply IsS97.set_0|apply IsS97.set_1|apply IsS97.set_2)|exact HI0.1)⟩,⟨by repeat(first|(with_reducible first|exact HK.1|apply hka_drewN|apply hka_drew|apply hka_alloc)|exact HK.1)⟩,⟨by repeat(first|(with_reducible first|exact HB.1|apply below_alloc|apply pw_below_drewN|apply below_drew1|refine below_set ?_ (IsS97.ge HI0.1))|exact HB.1)⟩⟩
                                                  · rw [if_neg c32] at H
                                                    exact absurd H (by simp)
                                                · rw [if_neg c31] at H
                                                  exact absurd H (by simp)
                                            · rw [if_neg c28] at H
                                              have c28b0:(t246==(rd s0_3 (ji7)))=false:=beq_eq_false_iff_ne.mpr c28;have c28b1:(t246 !=(rd s0_3 (ji7)))=true:=bne_iff_ne.mpr c28
                                              by_cases c39:t238=0
                                              · rw [if_pos c39] at H
                                                exact absurd H (by simp)
                                              · rw [if_neg c39] at H
                                                have c39b0:(t238==0)=false:=beq_eq_false_iff_ne.mpr c39;have c39b1:(t238 !=0)=true:=bne_iff_ne.mpr c39;obtain⟨ji40,hji40⟩:∃j_:Int,(Int.tmod (wrap64 (x37_1+x61_3)) t238)=j_:=⟨_,rfl⟩
                                                replace H:(if 0≤(ji40) then (if (ji40)<(x8_3.length:Int) then (impl_periods_times.l2 k3 l2 t234 (x8_3.set ((ji40):Int).toNat (wrap64 ((rd x8_3 (ji40))+(wrap64 ((wrap64 ((rd l1 x37_1)*(rd l2 x44_2)))*(rd (rd_L1 t234 t246) x61_3)))))) (rd s0_3 (ji7)) x37_1 (rd l1 x37_1) (rd l2 x44_2) t246 l1 (l1.length:Int) x37_1 l2 (l2.length:Int) x44_2 t238 (wrap64 (x61_3+1)) t237 t238 t239 s0_3) else (none)) else (none))=some (r1,r2,r3,r4):=by first|(rw [hji40] at H;exact H)|(simp only [hji40] at H ⊢;exact H)
                                                by_cases c41:0≤(ji40)
                                                · rw [if_pos c41] at H
                                                  have c41b0:decide (0≤(ji40))=true:=decide_eq_true c41;clear c41
                                                  by_cases c42:(ji40)<(x8_3.length:Int)
                                                  · rw [if_pos c42] at H
                                                    have c42b0:decide ((ji40)<(x8_3.length:Int))=true:=decide_eq_true c42;clear c42;obtain⟨y252,hy252⟩:∃y_:List Int,y_=(x8_3.set ((ji40):Int).toNat (wrap64 ((rd x8_3 (ji40))+(wrap64 ((wrap64 ((rd l1 x37_1)*(rd l2 x44_2)))*(rd (rd_L1 t234 t246) x61_3)))))):=⟨_,rfl⟩
                                                    replace H:(impl_periods_times.l2 k3 l2 t234 y252 (rd s0_3 (ji7)) x37_1 (rd l1 x37_1) (rd l2 x44_2) t246 l1 (l1.length:Int) x37_1 l2 (l2.length:Int) x44_2 t238 (wrap64 (x61_3+1)) t237 t238 t239 s0_3)=some (r1,r2,r3,r4):=by first|(rw [hy252];with_reducible exact H)|(have H2_:=(Option.bind_some _ _).symm.trans H;rw [hy252];with_reducible exact H2_)|(have H2_:=(Option.bind_some _ _).symm.trans H;with_reducible exact H2_)|with_reducible exact H|(rw [hy252];exact H)|exact H
                                                    have Ny252:=qAm hy252;clear hy252;have H':=qAm H;clear H;obtain⟨Ao44,co44,eo44⟩:=Kd.S_slice HO_7.1;subst eo44;have p247:0≤(t246:Int):=of_decide_eq_true qB46;have q247:t246<(t234.length:Int):=of_decide_eq_true qB46;obtain⟨ad247,A247_0,c247_0,e247,hx247_0,hl247_0,hi247_0⟩:=at_L1 (Kd.S_reads' HO_7.1).2.2 t246 p247 q247;cases e247
                                                    obtain⟨ce247,hce247,hMe247,hcc247⟩:=Kd.S_get HO_7.1 [] t246 p247 qB10;obtain⟨ve247_0,rfl,ge247_0⟩:=hMe247;have hv247_0:=hcc247 0 _ rfl;rw [Nat.add_zero,show((Kd.slice 2 (Kd.int .i64))).sz=1 from rfl,Nat.mul_one] at hv247_0;replace hv247_0:=Option.some.inj (hv247_0.symm.trans hx247_0);rw [hv247_0] at ge247_0;have HL247_0:=qAm (show Kd.R (Kd.int .i64) 2 _ _ _ _ (rd_L1 t234 t246) from ge247_0);clear hv247_0 ge247_0 hcc247 hce247;have HR247_0:=qAm hi247_0;have HC247_0:=qAm hl247_0;clear hi247_0 hl247_0;replace p247:=eq_true p247;replace q247:=eq_true q247;have p248:0≤(x61_3:Int):=of_decide_eq_true qB46;have q248:x61_3<((rd_L1 t234 t246).length:Int):=of_decide_eq_true qB46;obtain⟨ad248,e248,hx248_0⟩:=Kd.at_int qB3 x61_3 p248 q248;cases e248
                                                    replace p248:=eq_true p248;replace q248:=eq_true q248;obtain⟨ASz45_3,cSz45_3,HGz45,hgz45,HSz45_3⟩:=HI0.1;have hcz45_0:=cellS97_0 HGz45;have hcz45_1:=cellS97_1 HGz45;have hcz45_2:=cellS97_2 HGz45;have hcz45_3:=cellS97_3 HGz45;have hfz45_0:=blk_frozen HGz45 0;have hfz45_1:=blk_frozen HGz45 1;have hfz45_2:=blk_frozen HGz45 2;clear HGz45 hgz45;obtain⟨Ao46,co46,eo46⟩:=Kd.R_slice HO_8.1;subst eo46;have p251:0≤((ji40):Int):=of_decide_eq_true qB46;have q251:(ji40)<(x8_3.length:Int):=of_decide_eq_true qB46;obtain⟨ad251,e251,hx251_0⟩:=Kd.at_int (Kd.R_reads' HO_8.1).2.2 (ji40) p251 q251;cases e251
                                                    replace p251:=eq_true p251;replace q251:=eq_true q251;have p43:0≤((ji40):Int):=of_decide_eq_true qB46;have q43:((ji40):Int)<((x8_3.length:Int):Int):=of_decide_eq_true qB46;obtain⟨go43,co43,eo43,gb43,gl43,cl43,HG43⟩:=Kd.R_form HO_8.1 (by omega)
                                                    (first|cases eo43|(injection eo43 with ea_ en_ ec_;(first|subst ea_|(injection ea_ with ea_;subst ea_));subst ec_;clear en_))
                                                    have GB43:=qAm gb43;have GG43:=qAm HG43;clear gb43 gl43 HG43
                                                    (first|simp only [add_plain] at hx251_0|skip)
                                                    obtain⟨hx43_0,hf43_0⟩:=Kd.R_celln 0 HO_8.1 ((ji40):Int) p43 q43;replace p43:=eq_true p43;replace q43:=eq_true q43;have HP47:=Kd.R_putg HO_8.1 ((ji40):Int) (wrap64 ((rd x8_3 (ji40))+(wrap64 ((wrap64 ((rd l1 x37_1)*(rd l2 x44_2)))*(rd (rd_L1 t234 t246) x61_3)))));go_wp2_with (first|((with_reducible refine gate_store (t:=2) (p:=97) rfl ?_);refine store_event (t:=2) (p:=97) (v:=?vo_w48) (w1:=(wr.setCell ⟨go43,((ji40):Int).toNat,none⟩ (.int .i64 (wrap64 ((rd x8_3 (ji40))+(wrap64 ((wrap64 ((rd l1 x37_1)*(rd l2 x44_2)))*(rd (rd_L1 t234 t246) x61_3)))))))) ?hg ?ho ?hn ?hr ?_;(case ho=>rfl);(case hg=>rfl);(case hn=>rfl);(case hr=>first|(go_simp;done)|(go_simp;rfl));intro w48 hw;have hg:wr.grownBy w48 (some go43):=(by rw [hw];exact HP47.2);have hp_:Kd.R (Kd.int .i64) 2 w48 w.heap.size (fun _=>True) (.slice (some ⟨go43,0,none⟩) x8_3.length co46) y252:=(by rw [hw,Ny252.1];exact HP47.1);clear HP47;have n0_:=qAm (Kd.S_after (v:=(.slice (some ⟨go43,0,none⟩) x8_3.length co46)) (v1:=(.slice (some ⟨go43,0,none⟩) x8_3.length co46)) (ok:=(fun _=>True)) qB12 hg (.inl rfl));have n1_:=qAm (hp_);have n2_:=qAm (IsS97.grown qB4 hg (IsS97.own_ne HI0.1 HO_8.1 (by decide)));have n3_:=qAm (Kd.R_after (v:=(.slice (some ⟨go43,0,none⟩) x8_3.length co46)) (v1:=(.slice (some ⟨go43,0,none⟩) x8_3.length co46)) (ok:=(fun k_=>some k_≠(.slice (some ad247) t234.length co44:Value).ownBlock)) qB11 hg (.inl rfl));have n4_:=qAm ((by rw [hw];exact below_set (HB.1) (Nat.le_trans HL.1 GB43.1):Below w0.heap.size w0 w48));have n5_:=qAm (HKeep.trans qB20 (HKeep.of_grown hg g) (Kd.R_base2 HO_8.1));clear HO_7;clear HO_8;clear HI0;clear HL247_0;clear HB;clear HK;have HO_7:=n0_;have HO_8:=n1_;have HI0:=n2_;have HL247_0:=n3_;have HB:=n4_;have HK:=n5_;clear n0_ n1_ n2_ n3_ n4_ n5_;clear hg hw hp_))
                                                    (first|go_roundg k3|((try simp only [add_plain] at *);go_roundg k3))
                                                    case measure=>have:=HK1.1;have:=HK2.1;have:=HK3.1;omega
                                                    case rel=>exact⟨(y252),(wrap64 (x61_3+1)),qB47,H',⟨by have:=HK1.1;have:=HK2.1;have:=HK3.1;omega⟩,⟨by (with_reducible repeat(first|apply Kd.S_alloc|apply Kd.S_drewN|apply Kd.S_drew));exact Kd.S_mono HO_7.1 (fun _ hk=>hk.2)⟩,⟨by (with_reducible repeat(first|apply Kd.R_alloc|apply Kd.R_drewN|apply Kd.R_drew));exact HO_8.1⟩,⟨by repeat(first|(with_reducible first|exact HI0.1|apply IsS97.alloc|apply IsS97.drewN|apply IsS97.drew|apply IsS97.set_0|apply IsS97.set_1|apply IsS97.set_2)|exact HI0.1)⟩,⟨by repeat(first|(with_reducible first|exact HK.1|apply hka_drewN|apply hka_drew|apply hka_alloc)|exact HK.1)⟩,⟨by repeat(first|(with_reducible first|exact HB.1|apply below_alloc|apply pw_below_drewN|apply below_drew1|refine below_set ?_ (IsS97.ge HI0.1))|exact HB.1)⟩⟩
                                                  · rw [if_neg c42] at H
                                                    exact absurd H (by simp)
                                                · rw [if_neg c41] at H
                                                  exact absurd H (by simp)
                                          · rw [if_neg c27] at H
                                            exact absurd H (by simp)
                                        · rw [if_neg c26] at H
                                          exact absurd H (by simp)
                                      · rw [if_neg c25] at H
                                        exact absurd H (by simp)
                                    · rw [if_neg c24] at H
                                      exact absurd H (by simp)
                                  · rw [if_neg c23] at H
                                    have c23b0:decide (x61_3<t238)=false:=decide_eq_false c23;clear c23;have H':=qAm H;clear H;go_wp2
                                    (first|go_roundg k3|((try simp only [add_plain] at *);go_roundg k3))
                                    case measure=>have:=HK1.1;have:=HK2.1;have:=HK3.1;omega
                                    case rel=>exact⟨(x8_3),(wrap64 (x44_2+1)),qB47,H',⟨by have:=HK1.1;have:=HK2.1;have:=HK3.1;omega⟩,⟨by (with_reducible repeat(first|apply Kd.S_alloc|apply Kd.S_drewN|apply Kd.S_drew));exact HO_7.1⟩,⟨by (with_reducible repeat(first|apply Kd.R_alloc|apply Kd.R_drewN|apply Kd.R_drew));exact HO_8.1⟩,⟨by repeat(first|(with_reducible first|exact HI0.1|apply IsS97.alloc|apply IsS97.drewN|apply IsS97.drew|apply IsS97.set_0|apply IsS97.set_1|apply IsS97.set_2)|exact HI0.1)⟩,⟨by repeat(first|(with_reducible first|exact HK.1|apply hka_drewN|apply hka_drew|apply hka_alloc)|exact HK.1)⟩,⟨by repeat(first|(with_reducible first|exact HB.1|apply below_alloc|apply pw_below_drewN|apply below_drew1|refine below_set ?_ (IsS97.ge HI0.1))|exact HB.1)⟩⟩
                            · rw [if_neg c20] at H
                              exact absurd H (by simp)
                          · rw [if_neg c19] at H
                            exact absurd H (by simp)
                        · rw [if_neg c18] at H
                          have c18b0:decide (x44_2<(l2.length:Int))=false:=decide_eq_false c18;clear c18;have H':=qAm H;clear H;go_wp2
                          (first|go_roundg k2|((try simp only [add_plain] at *);go_roundg k2))
                          case measure=>have:=HK1.1;have:=HK2.1;omega
                          case rel=>exact⟨(x8_2),(wrap64 (x37_1+1)),qB47,H',⟨by have:=HK1.1;have:=HK2.1;omega⟩,⟨by (with_reducible repeat(first|apply Kd.S_alloc|apply Kd.S_drewN|apply Kd.S_drew));exact HO_7.1⟩,⟨by (with_reducible repeat(first|apply Kd.R_alloc|apply Kd.R_drewN|apply Kd.R_drew));exact HO_8.1⟩,⟨by repeat(first|(with_reducible first|exact HI0.1|apply IsS97.alloc|apply IsS97.drewN|apply IsS97.drew|apply IsS97.set_0|apply IsS97.set_1|apply IsS97.set_2)|exact HI0.1)⟩,⟨by repeat(first|(with_reducible first|exact HK.1|apply hka_drewN|apply hka_drew|apply hka_alloc)|exact HK.1)⟩,⟨by repeat(first|(with_reducible first|exact HB.1|apply below_alloc|apply pw_below_drewN|apply below_drew1|refine below_set ?_ (IsS97.ge HI0.1))|exact HB.1)⟩⟩
                  · rw [if_neg c17] at H
                    exact absurd H (by simp)
                · rw [if_neg c16] at H
                  exact absurd H (by simp)
              · rw [if_neg c15] at H
                have c15b0:decide (x37_1<(l1.length:Int))=false:=decide_eq_false c15;clear c15;simp only [Option.some.injEq,Prod.mk.injEq] at H;obtain⟨rfl,rfl,rfl,rfl⟩:=H;go_wp2;go_ret;exact⟨_,by first|rfl|(simp [errW_none,errW_some] <;> rfl)|(simp only [← hji7];first|rfl|(simp [errW_none,errW_some] <;> rfl))|(simp [*,errW_none,errW_some] <;> rfl),by (with_reducible repeat(first|apply Kd.R_alloc|apply Kd.R_drewN|apply Kd.R_drew));exact HO_8.1,by repeat(first|(with_reducible first|exact HI0.1|apply IsS97.alloc|apply IsS97.drewN|apply IsS97.drew|apply IsS97.set_0|apply IsS97.set_1|apply IsS97.set_2)|exact HI0.1),by repeat(first|(with_reducible first|exact HB.1|apply below_alloc|apply pw_below_drewN|apply below_drew1|refine below_set ?_ (IsS97.ge HI0.1))|exact HB.1),by repeat(first|(with_reducible first|exact HK.1|apply hka_drewN|apply hka_drew|apply hka_alloc)|exact HK.1)⟩
        · rw [if_neg c9] at H
          exact absurd H (by simp)
      · rw [if_neg c8] at H
        exact absurd H (by simp)
    · rw [if_neg c6] at H
      exact absurd H (by simp)
  · rw [if_neg c5] at H
    exact absurd H (by simp)

/-! ### impl_ptimes: function 164 -/
-- HAND
def impl_ptimes.f (k:Nat) (a0:Int) (a1:Int) (a2:Int) (l3:List Int) (l4:List Int) (l5:List Int):Option (List Int):=(impl_periods_times.f k a0 a1 a2 l3 l4 l5).bind fun d=>some d.1
theorem impl_ptimes.mono:∀a0 a1 a2 a3 a4 a5 k,LeO (impl_ptimes.f k a0 a1 a2 a3 a4 a5) (impl_ptimes.f (k+1) a0 a1 a2 a3 a4 a5):=by
  intro a0 a1 a2 a3 a4 a5 k;unfold impl_ptimes.f;repeat' first
      |(with_reducible exact impl_periodsOf.mono _ _ _)
      |(with_reducible exact LeO.refl _)
      |(with_reducible exact LeO.none _)
      |(with_reducible refine LeO.ite ?_ ?_)
      |(with_reducible refine LeO.bind ?_ (fun _=>?_))
      |exact impl_periodsOf.mono _ _ _
      |apply impl_periods_times.mono
      |exact LeO.none _
      |refine LeO.ite ?_ ?_
      |refine LeO.bind ?_ (fun _=>?_)

end Go.Proofs.Ytefhabkikaadiaa.PFnExactPeriodPolynomial
