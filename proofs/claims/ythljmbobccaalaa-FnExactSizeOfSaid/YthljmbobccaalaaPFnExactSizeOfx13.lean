/- The functions that the law reaches, as plain functions, each with the proof that the program comes to it; no condition. Written by a program of this session (wip/mp.py) over the printing of the kit; what is marked HAND is told by hand. -/
import Derived.Test.YthljmbobccaalaaPFnExactSizeOfx0
import Derived.Test.YthljmbobccaalaaPFnExactSizeOfx10
import Derived.Test.YthljmbobccaalaaPFnExactSizeOfx11
import Derived.Test.YthljmbobccaalaaPFnExactSizeOfx12
namespace Go.Proofs.Ythljmbobccaalaa.PFnExactSizeOf
open Go.RowKit Go.Proofs.YthljmbobccaalaaW.PrintWords Go.Proofs.YthljmbobccaalaaW.PrintLast Go.Proofs.YthljmbobccaalaaW.PrintMore
attribute [local go_sem] max2_int min2_int max_two min_two max_three min_three max_four min_four   -- for this text's walks alone
set_option linter.unusedVariables false
set_option linter.unusedSimpArgs false

/-! ### impl_around: function 92 -/
def impl_around.f (a0:Int) (a1:Int):Option (Int):=if a1=0 then (none) else (some (Int.tmod (wrap64 ((Int.tmod a0 a1)+a1)) a1))
set_option maxHeartbeats 8000000 in
set_option maxRecDepth 100000 in
theorem impl_around.calls (a0:Int) (a1:Int) (r:Int) (w:World) (h:impl_around.f a0 a1=some r):
  Calls Try.prog 92 #[.int .i64 a0,.int .i64 a1] w fun e w'=>e=.returned (.int .i64 r)∧Drawn0 w w':=by
 have H:(if a1=0 then (none) else (some (Int.tmod (wrap64 ((Int.tmod a0 a1)+a1)) a1)))=some r:=h;clear h
 by_cases c3:a1=0
 ·rw [if_pos c3] at H;exact absurd H (by simp)
 ·rw [if_neg c3] at H;have c3b0:(a1==0)=false:=beq_eq_false_iff_ne.mpr c3;have c3b1:(a1 !=0)=true:=bne_iff_ne.mpr c3;obtain rfl:=Option.some.inj H;go_enter Try.func92,Try.ntmps92;go_wp2;go_ret;exact⟨by first|rfl|(simp;done)|(simp [*];done),by repeat(first|exact Drawn0.refl _|apply Drawn0.step)⟩

/-! ### impl_field_with: function 75 -/
mutual
def impl_field_with.l0:Nat→Int→List Int→List Int→Int→Int→Int→Int→List (List Int)→Option (List Int×Int×Int)
 |0,_,_,_,_,_,_,_,_=>none
 |k+1,x2,x7,x17,x18,x19,x1000,x1001,x1002=>if x19<x18 then (if 0≤x19 then (if x19<(x17.length:Int) then ((impl_around.f (wrap64 (x2*x19)) x1000).bind fun t359=>(if 0≤t359 then (if t359<(x1002.length:Int) then (impl_field_with.l1 k x2 x7 (rd x17 x19) x17 x18 x19 (rd_L1 x1002 t359) ((rd_L1 x1002 t359).length:Int) 0 x1000 x1001 x1002) else (none)) else (none))) else (none)) else (none)) else (some (x7,x1000,x1001))
def impl_field_with.l1:Nat→Int→List Int→Int→List Int→Int→Int→List Int→Int→Int→Int→Int→List (List Int)→Option (List Int×Int×Int)
 |0,_,_,_,_,_,_,_,_,_,_,_,_=>none
 |k+1,x2,x7,x9,x17,x18,x19,x37,x38,x39,x1000,x1001,x1002=>if x39<x38 then (if 0≤x39 then (if x39<(x37.length:Int) then (if x39<(x7.length:Int) then (impl_field_with.l1 k x2 (x7.set (x39:Int).toNat (wrap64 ((rd x7 x39)+(wrap64 (x9*(rd x37 x39)))))) x9 x17 x18 x19 x37 x38 (wrap64 (x39+1)) x1000 x1001 x1002) else (none)) else (none)) else (none)) else (impl_field_with.l0 k x2 x7 x17 x18 (wrap64 (x19+1)) x1000 x1001 x1002)
end
def impl_field_with.f (k:Nat) (s0_0:Int) (s0_1:Int) (s0_2:List (List Int)) (l1:List Int) (a2:Int):Option (List Int×Int×Int):=if 0≤s0_1 then (if (s0_1:Int).toNat≤35184372088832 then (impl_field_with.l0 k a2 (List.replicate (s0_1:Int).toNat 0) l1 (l1.length:Int) 0 s0_0 s0_1 s0_2) else (none)) else (none)
theorem impl_field_with.mono_l:∀k,(∀y0 y1 y2 y3 y4 y5 y6 y7,LeO (impl_field_with.l0 k y0 y1 y2 y3 y4 y5 y6 y7) (impl_field_with.l0 (k+1) y0 y1 y2 y3 y4 y5 y6 y7))∧(∀y0 y1 y2 y3 y4 y5 y6 y7 y8 y9 y10 y11,LeO (impl_field_with.l1 k y0 y1 y2 y3 y4 y5 y6 y7 y8 y9 y10 y11) (impl_field_with.l1 (k+1) y0 y1 y2 y3 y4 y5 y6 y7 y8 y9 y10 y11))
 |0=>⟨fun _ _ _ _ _ _ _ _ r h=>by simp [impl_field_with.l0] at h,fun _ _ _ _ _ _ _ _ _ _ _ _ r h=>by simp [impl_field_with.l1] at h⟩
 |k+1=>by
  obtain⟨ih0,ih1⟩:=impl_field_with.mono_l k;refine⟨?_,?_⟩
  ·intro y0 y1 y2 y3 y4 y5 y6 y7;unfold impl_field_with.l0;repeat' first
   |(with_reducible exact ih0 _ _ _ _ _ _ _ _)
   |(with_reducible exact ih1 _ _ _ _ _ _ _ _ _ _ _ _)
   |(with_reducible exact LeO.refl _)
   |(with_reducible exact LeO.none _)
   |(with_reducible refine LeO.ite ?_ ?_)
   |(with_reducible refine LeO.bind ?_ (fun _=>?_))
   |exact ih0 _ _ _ _ _ _ _ _
   |exact ih1 _ _ _ _ _ _ _ _ _ _ _ _
   |exact LeO.none _
   |refine LeO.ite ?_ ?_
   |refine LeO.bind ?_ (fun _=>?_)
  ·intro y0 y1 y2 y3 y4 y5 y6 y7 y8 y9 y10 y11;unfold impl_field_with.l1;repeat' first
   |(with_reducible exact ih0 _ _ _ _ _ _ _ _)
   |(with_reducible exact ih1 _ _ _ _ _ _ _ _ _ _ _ _)
   |(with_reducible exact LeO.refl _)
   |(with_reducible exact LeO.none _)
   |(with_reducible refine LeO.ite ?_ ?_)
   |(with_reducible refine LeO.bind ?_ (fun _=>?_))
   |exact ih0 _ _ _ _ _ _ _ _
   |exact ih1 _ _ _ _ _ _ _ _ _ _ _ _
   |exact LeO.none _
   |refine LeO.ite ?_ ?_
   |refine LeO.bind ?_ (fun _=>?_)
theorem impl_field_with.mono:∀a0 a1 a2 a3 a4 k,LeO (impl_field_with.f k a0 a1 a2 a3 a4) (impl_field_with.f (k+1) a0 a1 a2 a3 a4):=by
 intro a0 a1 a2 a3 a4 k;obtain⟨ih0,ih1⟩:=impl_field_with.mono_l k;unfold impl_field_with.f;repeat' first
   |(with_reducible exact ih0 _ _ _ _ _ _ _ _)
   |(with_reducible exact ih1 _ _ _ _ _ _ _ _ _ _ _ _)
   |(with_reducible exact LeO.refl _)
   |(with_reducible exact LeO.none _)
   |(with_reducible refine LeO.ite ?_ ?_)
   |(with_reducible refine LeO.bind ?_ (fun _=>?_))
   |exact ih0 _ _ _ _ _ _ _ _
   |exact ih1 _ _ _ _ _ _ _ _ _ _ _ _
   |exact LeO.none _
   |refine LeO.ite ?_ ?_
   |refine LeO.bind ?_ (fun _=>?_)
-- HAND
theorem hwi_cl (a i:Int) (B:Nat) (w:World) (hc:w.cell? ⟨B,0,none⟩=some (.int .i64 a)):
  Calls Try.prog 76 #[.int .i64 i,.pointer (some ⟨B,0,none⟩)] w fun e w'=>e=.returned (.int .i64 (wrap64 (a*i)))∧Drawn0 w w':=by
 go_enter Try.func76,Try.ntmps76;go_wp2;go_ret;exact⟨by first|rfl|simp [i64_w],by repeat(first|exact Drawn0.refl _|apply Drawn0.step)⟩
set_option maxHeartbeats 8000000 in
set_option maxRecDepth 100000 in
theorem impl_field_with.calls (k:Nat) (g:Nat) (s0_0:Int) (s0_1:Int) (s0_2:List (List Int)) (A1:Option Addr) (c1:Nat) (l1:List Int) (a2:Int) (r1:List Int) (r2:Int) (r3:Int) (w0 w:World) (hI:IsS52 w0 w g s0_0 s0_1 s0_2) (hB:Below w0.heap.size w0 w) (hr1:Kd.C (Kd.int .i64) w A1 l1.length l1) (hc1:l1.length≤c1) (hf1:∀ad,A1=some ad→0<l1.length→ad.block≠g) (B:Nat) (hcB:w.cell? ⟨B,0,none⟩=some (.int .i64 a2)) (hneB:B≠g) (h:impl_field_with.f k s0_0 s0_1 s0_2 l1 a2=some (r1,r2,r3)):
  Calls Try.prog 75 #[.pointer (some ⟨g,0,none⟩),.slice A1 l1.length c1,.func (.func 76) #[] #[.pointer (some ⟨B,0,none⟩)]] w fun e w'=>∃v0_:Value,e=.returned (v0_)∧Kd.R (Kd.int .i64) 2 w' w.heap.size (fun _=>True) v0_ r1∧IsS52 w0 w' g r2 r3 s0_2∧Below w0.heap.size w0 w'∧KeepBut w w' g none:=by
 have HCB:=qAm hcB;have HNB:=qAm hneB;clear hcB hneB;have HR1:=qAm hr1;have HC1:=qAm hc1;clear hr1 hc1;have HI0:=qAm hI;have HK:=qAm (KeepBut.refl w g none);have HL:=qAm hB.size;clear hI;have HW0:=qAm hB.size;have HB:=qAm hB;clear hB;have H:(if 0≤s0_1 then (if (s0_1:Int).toNat≤35184372088832 then (impl_field_with.l0 k a2 (List.replicate (s0_1:Int).toNat 0) l1 (l1.length:Int) 0 s0_0 s0_1 s0_2) else (none)) else (none))=some (r1,r2,r3):=h;clear h
 by_cases c4:0≤s0_1
 ·rw [if_pos c4] at H;have c4b0:=eq_true c4;have c4b1:decide (0≤s0_1)=true:=decide_eq_true c4;clear c4
  by_cases c5:(s0_1:Int).toNat≤35184372088832
  ·rw [if_pos c5] at H;have c5b0:=eq_true c5;have c5b1:decide ((s0_1:Int).toNat≤35184372088832)=true:=decide_eq_true c5;clear c5;obtain⟨y355,hy355⟩:∃y_:List Int,y_=(List.replicate (s0_1:Int).toNat 0):=⟨_,rfl⟩
   replace H:(impl_field_with.l0 k a2 y355 l1 (l1.length:Int) 0 s0_0 s0_1 s0_2)=some (r1,r2,r3):=by first|(rw [hy355];with_reducible exact H)|(have H2_:=(Option.bind_some _ _).symm.trans H;rw [hy355];with_reducible exact H2_)|(have H2_:=(Option.bind_some _ _).symm.trans H;with_reducible exact H2_)|with_reducible exact H|(rw [hy355];exact H)|exact H
   have Ny355:=qAm hy355;clear hy355;have H':=qAm H;clear H;obtain⟨ASz6_2,cSz6_2,HGz6,hgz6,HSz6_2⟩:=HI0.1;have hcz6_0:=cellS52_0 HGz6;have hcz6_1:=cellS52_1 HGz6;have hcz6_2:=cellS52_2 HGz6;have hfz6_0:=blk_frozen HGz6 0;have hfz6_1:=blk_frozen HGz6 1;clear HGz6 hgz6;go_enter Try.func75,Try.ntmps75;go_wp2_with (first|((with_reducible refine gate_dst (N:=16) rfl ?_);refine Kd.R_make (Kd.int .i64) _ 2 rfl (N:=16) rfl 22 _ _ rfl s0_1 rfl rfl Try.underlying22 (.int .i64 0) 8 info2 rfl (by decide) (by omega) 0 (ok:=fun _=>True) (okp:=fun _=>True) rfl (fun _ hk=>hk) trivial (of_decide_eq_true qB106) (Nat.le_trans (Nat.mul_le_mul_right _ (of_decide_eq_true qB106:s0_1.toNat≤35184372088832)) (by omega)) (Below.refl _ _) (Nat.le_refl _) ?_;intro v356 w7 ho8 hb hg_ hnew_;clear hg_ hnew_;(first|rw [← Ny355.1] at ho8|(simp only [Int.reduceToNat] at ho8;rw [← Ny355.1] at ho8));have n0_:=qAm (Kd.R_lower ho8 (keep_size (w:=w) (g:=g) (row:=none) qB45));have n1_:=qAm (IsS52.below qB25 hb);have n2_:=qAm (KeepBut.trans qB45 (KeepBut.of_below hb g none) (.inl rfl));have n3_:=qAm (below_step qB24 hb);clear HI0;clear HK;clear HB;have HO357:=n0_;have HI0:=n1_;have HK:=n2_;have HB:=n3_;clear n0_ n1_ n2_ n3_;clear hb ho8));try simp only [Act.put,qSa,qSc,qSb]
   go_loopg [19] k (fun kq v19 w'=>∃(x7_1:List Int) (x19_1:Int),v19=.int .i64 x19_1∧Aside0 (impl_field_with.l0 kq a2 x7_1 l1 (l1.length:Int) x19_1 s0_0 s0_1 s0_2=some (r1,r2,r3))∧Aside0 (kq≤k)∧Aside0 (Kd.R (Kd.int .i64) 2 w' w.heap.size (fun _=>True) v356 x7_1)∧Aside0 (IsS52 w0 w' g s0_0 s0_1 s0_2)∧Aside0 (KeepBut w w' g none)∧Aside0 (Below w0.heap.size w0 w'))
   case atStart=>exact⟨(y355),(0),qB107,H',⟨Nat.le_refl _⟩,⟨by (with_reducible repeat(first|apply Kd.R_alloc|apply Kd.R_drewN|apply Kd.R_drew));exact HO357.1⟩,⟨by repeat(first|(with_reducible first|exact HI0.1|apply IsS52.alloc|apply IsS52.drewN|apply IsS52.drew|apply IsS52.set_0|apply IsS52.set_1)|exact HI0.1)⟩,⟨by repeat(first|(with_reducible first|exact HK.1|apply KeepBut.set_|apply keep_drewN|apply keep_drew|apply keep_alloc)|exact HK.1)⟩,⟨by repeat(first|(with_reducible first|exact HB.1|apply below_alloc|apply pw_below_drewN|apply below_drew1|refine below_set ?_ (IsS52.ge HI0.1))|exact HB.1)⟩⟩
   case round=>
    clear H';try clear c1
    try clear p2
    try clear c4
    try clear c4b0
    try clear c4b1
    try clear c5
    try clear c5b0
    try clear c5b1
    try clear c7
    try clear hcz6_0
    try clear hcz6_1
    try clear hcz6_2
    try clear hfz6_0
    try clear hfz6_1
    obtain⟨x7_1,x19_1,rfl,HA,HK1,HO_7,HI0,HK,HB⟩:=hrel;cases gk with
    |zero=>exact absurd HA.1 (by simp [impl_field_with.l0])
    |succ k1=>
     have H:=HA.1;clear HA;simp only [impl_field_with.l0] at H
     by_cases c9:x19_1<(l1.length:Int)
     ·rw [if_pos c9] at H;have c9b0:decide (x19_1<(l1.length:Int))=true:=decide_eq_true c9;clear c9
      by_cases c10:0≤x19_1
      ·rw [if_pos c10] at H;have c10b0:decide (0≤x19_1)=true:=decide_eq_true c10;clear c10
       by_cases c11:x19_1<(l1.length:Int)
       ·rw [if_pos c11] at H;have c11b0:decide (x19_1<(l1.length:Int))=true:=decide_eq_true c11;clear c11;replace H:=qOb H;obtain⟨t359,A120,H⟩:=H;replace H:(if 0≤t359 then (if t359<(s0_2.length:Int) then (impl_field_with.l1 k1 a2 x7_1 (rd l1 x19_1) l1 (l1.length:Int) x19_1 (rd_L1 s0_2 t359) ((rd_L1 s0_2 t359).length:Int) 0 s0_0 s0_1 s0_2) else (none)) else (none))=some (r1,r2,r3):=H;have A12:=qAm A120;clear A120
        by_cases c13:0≤t359
        ·rw [if_pos c13] at H;have c13b0:decide (0≤t359)=true:=decide_eq_true c13;clear c13
         by_cases c14:t359<(s0_2.length:Int)
         ·rw [if_pos c14] at H;have c14b0:decide (t359<(s0_2.length:Int))=true:=decide_eq_true c14;clear c14;have H':=qAm H;clear H;have p358:0≤(x19_1:Int):=of_decide_eq_true qB106;have q358:x19_1<(l1.length:Int):=of_decide_eq_true qB106;obtain⟨ad358,e358,hx358_0⟩:=Kd.at_int HR1.1 x19_1 p358 q358;cases e358
          replace hx358_0:=keep_cell HK.1 hx358_0 (by first|(rw [add_block];exact hf1 _ rfl (by omega))|exact hf1 _ rfl (by omega)|exact hf1 ad358 rfl (by omega));replace p358:=eq_true p358;replace q358:=eq_true q358;obtain⟨ASz15_2,cSz15_2,HGz15,hgz15,HSz15_2⟩:=HI0.1;have hcz15_0:=cellS52_0 HGz15;have hcz15_1:=cellS52_1 HGz15;have hcz15_2:=cellS52_2 HGz15;have hfz15_0:=blk_frozen HGz15 0;have hfz15_1:=blk_frozen HGz15 1;clear HGz15 hgz15;have p360:0≤(t359:Int):=of_decide_eq_true qB106;have q360:t359<(s0_2.length:Int):=of_decide_eq_true qB106;obtain⟨ad360,A360_0,c360_0,e360,hx360_0,hl360_0,hi360_0⟩:=at_L1 HSz15_2 t359 p360 q360;cases e360
          replace hx360_0:=pw_cell_below HB.1 hx360_0;have HR360_0:=qAm hi360_0;have HC360_0:=qAm hl360_0;clear hi360_0 hl360_0;replace p360:=eq_true p360;replace q360:=eq_true q360;go_wp2_with fail;go_region_with (first|(go_at_call 76;(try simp only [i64_w]);refine(hwi_cl a2 _ B _ (by first|exact keep_cell HK.1 HCB.1 HNB.1|(simpa using keep_cell HK.1 HCB.1 HNB.1))).mono ?_;(try simp only [i64_w]);rintro e w' ⟨rfl,⟨nd,rfl⟩⟩)|(go_at_call 92;(try simp only [i64_w]);(with_reducible refine(impl_around.calls (wrap64 (a2*x19_1)) s0_0 t359 _ A12.1).mono ?_);rintro e w' ⟨rfl,⟨nd,rfl⟩⟩))
          all_goals
           go_wp2;try simp only [List.getElem_toArray,List.getElem_cons_succ,List.getElem_cons_zero,Act.put,qSa,qSc,qSb]
           try simp only [Act.put,qSa,qSc,qSb]
           go_loopg [39] k1 (fun kq v39 w'=>∃(x7_2:List Int) (x39_2:Int),v39=.int .i64 x39_2∧Aside0 (impl_field_with.l1 kq a2 x7_2 (rd l1 x19_1) l1 (l1.length:Int) x19_1 (rd_L1 s0_2 t359) ((rd_L1 s0_2 t359).length:Int) x39_2 s0_0 s0_1 s0_2=some (r1,r2,r3))∧Aside0 (kq≤k1)∧Aside0 (Kd.R (Kd.int .i64) 2 w' w.heap.size (fun _=>True) v356 x7_2)∧Aside0 (IsS52 w0 w' g s0_0 s0_1 s0_2)∧Aside0 (KeepBut w w' g none)∧Aside0 (Below w0.heap.size w0 w'))
           case atStart=>exact⟨(x7_1),(0),qB107,H',⟨Nat.le_refl _⟩,⟨by (with_reducible repeat(first|apply Kd.R_alloc|apply Kd.R_drewN|apply Kd.R_drew));exact HO_7.1⟩,⟨by repeat(first|(with_reducible first|exact HI0.1|apply IsS52.alloc|apply IsS52.drewN|apply IsS52.drew|apply IsS52.set_0|apply IsS52.set_1)|exact HI0.1)⟩,⟨by repeat(first|(with_reducible first|exact HK.1|apply KeepBut.set_|apply keep_drewN|apply keep_drew|apply keep_alloc)|exact HK.1)⟩,⟨by repeat(first|(with_reducible first|exact HB.1|apply below_alloc|apply pw_below_drewN|apply below_drew1|refine below_set ?_ (IsS52.ge HI0.1))|exact HB.1)⟩⟩
           case round=>
            clear H';try clear c1
            try clear p2
            try clear c3
            try clear p3
            try clear q3
            try clear hx3
            try clear c4
            try clear c4b0
            try clear c4b1
            try clear c5
            try clear c5b0
            try clear c5b1
            try clear p6
            try clear c7
            try clear c9
            try clear c9b0
            try clear c10
            try clear c10b0
            try clear c11
            try clear c11b0
            try clear c13
            try clear c13b0
            try clear c14
            try clear c14b0
            try clear hcz15_0
            try clear hcz15_1
            try clear hcz15_2
            try clear hcz6_0
            try clear hcz6_1
            try clear hcz6_2
            try clear hfz15_0
            try clear hfz15_1
            try clear hfz6_0
            try clear hfz6_1
            try clear hx358_0
            try clear hx360_0
            try clear p2
            try clear p358
            try clear p360
            try clear q358
            try clear q360
            obtain⟨x7_2,x39_2,rfl,HA,HK2,HO_7,HI0,HK,HB⟩:=hrel;cases gk with
            |zero=>exact absurd HA.1 (by simp [impl_field_with.l1])
            |succ k2=>
             have H:=HA.1;clear HA;simp only [impl_field_with.l1] at H
             by_cases c16:x39_2<((rd_L1 s0_2 t359).length:Int)
             ·rw [if_pos c16] at H;have c16b0:decide (x39_2<((rd_L1 s0_2 t359).length:Int))=true:=decide_eq_true c16;clear c16
              by_cases c17:0≤x39_2
              ·rw [if_pos c17] at H;have c17b0:decide (0≤x39_2)=true:=decide_eq_true c17;clear c17
               by_cases c18:x39_2<((rd_L1 s0_2 t359).length:Int)
               ·rw [if_pos c18] at H;have c18b0:decide (x39_2<((rd_L1 s0_2 t359).length:Int))=true:=decide_eq_true c18;clear c18
                by_cases c19:x39_2<(x7_2.length:Int)
                ·rw [if_pos c19] at H;have c19b0:decide (x39_2<(x7_2.length:Int))=true:=decide_eq_true c19;clear c19;obtain⟨y363,hy363⟩:∃y_:List Int,y_=(x7_2.set (x39_2:Int).toNat (wrap64 ((rd x7_2 x39_2)+(wrap64 ((rd l1 x19_1)*(rd (rd_L1 s0_2 t359) x39_2)))))):=⟨_,rfl⟩
                 replace H:(impl_field_with.l1 k2 a2 y363 (rd l1 x19_1) l1 (l1.length:Int) x19_1 (rd_L1 s0_2 t359) ((rd_L1 s0_2 t359).length:Int) (wrap64 (x39_2+1)) s0_0 s0_1 s0_2)=some (r1,r2,r3):=by first|(rw [hy363];with_reducible exact H)|(have H2_:=(Option.bind_some _ _).symm.trans H;rw [hy363];with_reducible exact H2_)|(have H2_:=(Option.bind_some _ _).symm.trans H;with_reducible exact H2_)|with_reducible exact H|(rw [hy363];exact H)|exact H
                 have Ny363:=qAm hy363;clear hy363;have H':=qAm H;clear H;have p361:0≤(x39_2:Int):=of_decide_eq_true qB106;have q361:x39_2<((rd_L1 s0_2 t359).length:Int):=of_decide_eq_true qB106;obtain⟨ad361,e361,hx361_0⟩:=Kd.at_int HR360_0.1 x39_2 p361 q361;cases e361
                 replace hx361_0:=pw_cell_below HB.1 hx361_0;replace p361:=eq_true p361;replace q361:=eq_true q361;obtain⟨Ao21,co21,eo21⟩:=Kd.R_slice HO_7.1;subst eo21;have p362:0≤(x39_2:Int):=of_decide_eq_true qB106;have q362:x39_2<(x7_2.length:Int):=of_decide_eq_true qB106;obtain⟨ad362,e362,hx362_0⟩:=Kd.at_int (Kd.R_reads' HO_7.1).2.2 x39_2 p362 q362;cases e362
                 replace p362:=eq_true p362;replace q362:=eq_true q362;have p20:0≤(x39_2:Int):=of_decide_eq_true qB106;have q20:(x39_2:Int)<((x7_2.length:Int):Int):=of_decide_eq_true qB106;obtain⟨go20,co20,eo20,gb20,gl20,cl20,HG20⟩:=Kd.R_form HO_7.1 (by omega)
                 (first|cases eo20|(injection eo20 with ea_ en_ ec_;(first|subst ea_|(injection ea_ with ea_;subst ea_));subst ec_;clear en_))
                 have GB20:=qAm gb20;have GG20:=qAm HG20;clear gb20 gl20 HG20
                 (first|simp only [add_plain] at hx362_0|skip)
                 obtain⟨hx20_0,hf20_0⟩:=Kd.R_celln 0 HO_7.1 (x39_2:Int) p20 q20;replace p20:=eq_true p20;replace q20:=eq_true q20;have HP22:=Kd.R_putg HO_7.1 (x39_2:Int) (wrap64 ((rd x7_2 x39_2)+(wrap64 ((rd l1 x19_1)*(rd (rd_L1 s0_2 t359) x39_2)))));go_wp2_with (first|((with_reducible refine gate_store (t:=2) (p:=52) rfl ?_);refine store_event (t:=2) (p:=52) (v:=?vo_w23) (w1:=(wr.setCell ⟨go20,(x39_2:Int).toNat,none⟩ (.int .i64 (wrap64 ((rd x7_2 x39_2)+(wrap64 ((rd l1 x19_1)*(rd (rd_L1 s0_2 t359) x39_2)))))))) ?hg ?ho ?hn ?hr ?_;(case ho=>rfl);(case hg=>rfl);(case hn=>rfl);(case hr=>first|(go_simp;done)|(go_simp;rfl));intro w23 hw;have hg:wr.grownBy w23 (some go20):=(by rw [hw];exact HP22.2);have hp_:Kd.R (Kd.int .i64) 2 w23 w.heap.size (fun _=>True) (.slice (some ⟨go20,0,none⟩) x7_2.length co21) y363:=(by rw [hw,Ny363.1];exact HP22.1);clear HP22;have n0_:=qAm (hp_);have n1_:=qAm (IsS52.grown qB25 hg (IsS52.own_ne HI0.1 HO_7.1 (by decide)));have n2_:=qAm ((by rw [hw];exact below_set (HB.1) (Nat.le_trans HL.1 GB20.1):Below w0.heap.size w0 w23));have n3_:=qAm (KeepBut.trans qB45 (KeepBut.of_grown hg g) (Kd.R_base2 HO_7.1));clear HO_7;clear HI0;clear HB;clear HK;have HO_7:=n0_;have HI0:=n1_;have HB:=n2_;have HK:=n3_;clear n0_ n1_ n2_ n3_;clear hg hw hp_))
                 (first|go_roundg k2|((try simp only [add_plain] at *);go_roundg k2))
                 case measure=>have:=HK1.1;have:=HK2.1;omega
                 case rel=>exact⟨(y363),(wrap64 (x39_2+1)),qB107,H',⟨by have:=HK1.1;have:=HK2.1;omega⟩,⟨by (with_reducible repeat(first|apply Kd.R_alloc|apply Kd.R_drewN|apply Kd.R_drew));exact HO_7.1⟩,⟨by repeat(first|(with_reducible first|exact HI0.1|apply IsS52.alloc|apply IsS52.drewN|apply IsS52.drew|apply IsS52.set_0|apply IsS52.set_1)|exact HI0.1)⟩,⟨by repeat(first|(with_reducible first|exact HK.1|apply KeepBut.set_|apply keep_drewN|apply keep_drew|apply keep_alloc)|exact HK.1)⟩,⟨by repeat(first|(with_reducible first|exact HB.1|apply below_alloc|apply pw_below_drewN|apply below_drew1|refine below_set ?_ (IsS52.ge HI0.1))|exact HB.1)⟩⟩
                ·rw [if_neg c19] at H;exact absurd H (by simp)
               ·rw [if_neg c18] at H;exact absurd H (by simp)
              ·rw [if_neg c17] at H;exact absurd H (by simp)
             ·rw [if_neg c16] at H;have c16b0:decide (x39_2<((rd_L1 s0_2 t359).length:Int))=false:=decide_eq_false c16;clear c16;have H':=qAm H;clear H;go_wp2
              (first|go_roundg k2|((try simp only [add_plain] at *);go_roundg k2))
              case measure=>have:=HK1.1;have:=HK2.1;omega
              case rel=>exact⟨(x7_2),(wrap64 (x19_1+1)),qB107,H',⟨by have:=HK1.1;have:=HK2.1;omega⟩,⟨by (with_reducible repeat(first|apply Kd.R_alloc|apply Kd.R_drewN|apply Kd.R_drew));exact HO_7.1⟩,⟨by repeat(first|(with_reducible first|exact HI0.1|apply IsS52.alloc|apply IsS52.drewN|apply IsS52.drew|apply IsS52.set_0|apply IsS52.set_1)|exact HI0.1)⟩,⟨by repeat(first|(with_reducible first|exact HK.1|apply KeepBut.set_|apply keep_drewN|apply keep_drew|apply keep_alloc)|exact HK.1)⟩,⟨by repeat(first|(with_reducible first|exact HB.1|apply below_alloc|apply pw_below_drewN|apply below_drew1|refine below_set ?_ (IsS52.ge HI0.1))|exact HB.1)⟩⟩
         ·rw [if_neg c14] at H;exact absurd H (by simp)
        ·rw [if_neg c13] at H;exact absurd H (by simp)
       ·rw [if_neg c11] at H;exact absurd H (by simp)
      ·rw [if_neg c10] at H;exact absurd H (by simp)
     ·rw [if_neg c9] at H;have c9b0:decide (x19_1<(l1.length:Int))=false:=decide_eq_false c9;clear c9;simp only [Option.some.injEq,Prod.mk.injEq] at H;obtain⟨rfl,rfl,rfl⟩:=H;go_wp2;go_ret;exact⟨_,by first|rfl|(simp [errW_none,errW_some] <;> rfl)|(simp [*,errW_none,errW_some] <;> rfl),by (with_reducible repeat(first|apply Kd.R_alloc|apply Kd.R_drewN|apply Kd.R_drew));exact HO_7.1,by repeat(first|(with_reducible first|exact HI0.1|apply IsS52.alloc|apply IsS52.drewN|apply IsS52.drew|apply IsS52.set_0|apply IsS52.set_1)|exact HI0.1),by repeat(first|(with_reducible first|exact HB.1|apply below_alloc|apply pw_below_drewN|apply below_drew1|refine below_set ?_ (IsS52.ge HI0.1))|exact HB.1),by repeat(first|(with_reducible first|exact HK.1|apply KeepBut.set_|apply keep_drewN|apply keep_drew|apply keep_alloc)|exact HK.1)⟩
  ·rw [if_neg c5] at H;exact absurd H (by simp)
 ·rw [if_neg c4] at H;exact absurd H (by simp)

/-! ### impl_field_image: function 51 -/
def impl_field_image.f (k:Nat) (s0_0:Int) (s0_1:Int) (s0_2:List (List Int)) (l1:List Int) (a2:Int):Option (List Int×Int×Int):=(impl_field_with.f k s0_0 s0_1 s0_2 l1 a2).bind fun bt364=>(some (bt364.1,bt364.2.1,bt364.2.2))
theorem impl_field_image.mono:∀a0 a1 a2 a3 a4 k,LeO (impl_field_image.f k a0 a1 a2 a3 a4) (impl_field_image.f (k+1) a0 a1 a2 a3 a4):=by
 intro a0 a1 a2 a3 a4 k;unfold impl_field_image.f;repeat' first
   |(with_reducible exact impl_field_with.mono _ _ _ _ _ _)
   |(with_reducible exact LeO.refl _)
   |(with_reducible exact LeO.none _)
   |(with_reducible refine LeO.ite ?_ ?_)
   |(with_reducible refine LeO.bind ?_ (fun _=>?_))
   |exact impl_field_with.mono _ _ _ _ _ _
   |exact LeO.none _
   |refine LeO.ite ?_ ?_
   |refine LeO.bind ?_ (fun _=>?_)
-- HAND
set_option maxHeartbeats 8000000 in
set_option maxRecDepth 100000 in
theorem impl_field_image.calls (k:Nat) (g:Nat) (s0_0:Int) (s0_1:Int) (s0_2:List (List Int)) (A1:Option Addr) (c1:Nat) (l1:List Int) (a2:Int) (r1:List Int) (r2:Int) (r3:Int) (w0 w:World) (hI:IsS52 w0 w g s0_0 s0_1 s0_2) (hB:Below w0.heap.size w0 w) (hr1:Kd.C (Kd.int .i64) w A1 l1.length l1) (hc1:l1.length≤c1) (hf1:∀ad,A1=some ad→0<l1.length→ad.block≠g) (h:impl_field_image.f k s0_0 s0_1 s0_2 l1 a2=some (r1,r2,r3)):
  Calls Try.prog 51 #[.pointer (some ⟨g,0,none⟩),.slice A1 l1.length c1,.int .i64 a2] w fun e w'=>∃v0_:Value,e=.returned (v0_)∧Kd.R (Kd.int .i64) 2 w' w.heap.size (fun _=>True) v0_ r1∧IsS52 w0 w' g r2 r3 s0_2∧Below w0.heap.size w0 w'∧KeepBut w w' g none:=by
 obtain⟨⟨d1,d2,d3⟩,hd,he⟩:=qOb h;simp only [Option.some.injEq,Prod.mk.injEq] at he;obtain⟨rfl,rfl,rfl⟩:=he;have HD:=qAm hd;have HI:=qAm hI;have HB:=qAm hB;have HR1:=qAm hr1;have HC1:=qAm hc1;have HF1:=qAm hf1;have hlt:g<w.heap.size:=by obtain⟨_,_,hG,_,_⟩:=hI;exact blk_lt hG
 have HLT:=qAm hlt;clear hd hI hB hr1 hc1 hf1 h hlt;have hmf:∀(fn:Fn) (first cap:Array Value) (w:World),(Instr.makeFunc fn first cap).run Try.prog w=.ok (.func fn first cap) w:=fun _ _ _ _=>rfl
 go_enter Try.func51,Try.ntmps51;go_wp2_with (go_at_call 75;refine(impl_field_with.calls k g s0_0 s0_1 s0_2 A1 c1 l1 a2 d1 d2 d3 w0 _ (IsS52.below HI.1 (below_alloc (Below.refl _ _) _)) (below_alloc HB.1 _) (Kd.C_below HR1.1 (below_alloc (Below.refl _ _) _)) HC1.1 HF1.1 w.heap.size (by simp) (Nat.ne_of_gt HLT.1) HD.1).mono ?_;rintro e w' ⟨v,rfl,ho,hi,hb,hk⟩;have HO:=qAm (Kd.R_lower ho (by simp:w.heap.size≤(w.alloc _).heap.size));have HI2:=qAm hi;have HB2:=qAm hb;have HK2:=qAm (KeepBut.trans (KeepBut.of_below (below_alloc (Below.refl w.heap.size w) _) g none) hk (.inl rfl));clear ho hi hb hk);go_ret;exact⟨v,rfl,HO.1,HI2.1,HB2.1,HK2.1⟩

/-! ### impl_isPrimeTo: function 101 -/
def impl_isPrimeTo.f (k:Nat) (a0:Int) (a1:Int):Option (Bool):=(impl_within.f a0 1 a1).bind fun t369=>(if t369=true then ((impl_gcd.f k a0 a1).bind fun t370=>(some (t370==1))) else (some false))
theorem impl_isPrimeTo.mono:∀a0 a1 k,LeO (impl_isPrimeTo.f k a0 a1) (impl_isPrimeTo.f (k+1) a0 a1):=by
 intro a0 a1 k;unfold impl_isPrimeTo.f;repeat' first
   |(with_reducible exact impl_gcd.mono _ _ _)
   |(with_reducible exact LeO.refl _)
   |(with_reducible exact LeO.none _)
   |(with_reducible refine LeO.ite ?_ ?_)
   |(with_reducible refine LeO.bind ?_ (fun _=>?_))
   |exact impl_gcd.mono _ _ _
   |exact LeO.none _
   |refine LeO.ite ?_ ?_
   |refine LeO.bind ?_ (fun _=>?_)
set_option maxHeartbeats 8000000 in
set_option maxRecDepth 100000 in
theorem impl_isPrimeTo.calls (k:Nat) (a0:Int) (a1:Int) (r:Bool) (w:World) (h:impl_isPrimeTo.f k a0 a1=some r):
  Calls Try.prog 101 #[.int .i64 a0,.int .i64 a1] w fun e w'=>e=.returned (.bool r)∧Below w.heap.size w w':=by
 have HB:=qAm (Below.refl w.heap.size w);have H:((impl_within.f a0 1 a1).bind fun t369=>(if t369=true then ((impl_gcd.f k a0 a1).bind fun t370=>(some (t370==1))) else (some false)))=some r:=h;clear h;replace H:=qOb H;obtain⟨t369,A30,H⟩:=H;replace H:(if t369=true then ((impl_gcd.f k a0 a1).bind fun t370=>(some (t370==1))) else (some false))=some r:=H;have A3:=qAm A30;clear A30
 by_cases c4:t369=true
 ·subst c4;have H1:((impl_gcd.f k a0 a1).bind fun t370=>(some (t370==1)))=some r:=by rw [if_pos rfl] at H;exact H
  clear H;have H:=H1;clear H1;replace H:=qOb H;obtain⟨t370,A50,H⟩:=H;replace H:(some (t370==1))=some r:=H;have A5:=qAm A50;clear A50;obtain rfl:=Option.some.inj H;go_enter Try.func101,Try.ntmps101;go_wp2_with (first|((with_reducible refine gate_callee (f:=47) rfl ?_);refine goesL_ (some 7) rfl rfl Try.func47 (by kernel_rfl) rfl #[.int .i64 a0,.int .i64 1,.int .i64 a1] rfl qB50 ?_;(with_reducible refine(impl_within.calls a0 1 a1 true _ A3.1).mono ?_);rintro e w' ⟨rfl,⟨nd,rfl⟩⟩;refine⟨_,rfl,?_⟩)|(go_at_call 91;(with_reducible refine(impl_gcd.calls k a0 a1 t370 _ A5.1).mono ?_);rintro e w6 ⟨rfl,hb⟩;have n0_:=qAm (below_step qB53 hb);clear HB;have HB:=n0_;clear n0_;(try clear hb);(try clear hb2);(try clear hk);(try clear hi)));go_ret;exact⟨by first|rfl|(simp [errW_none,errW_some] <;> rfl)|(simp [*,errW_none,errW_some] <;> rfl),by repeat(first|(with_reducible first|exact HB.1|apply below_alloc|apply pw_below_drewN|apply below_drew1)|exact HB.1)⟩
 ·replace c4:=Bool.eq_false_iff.mpr c4;subst c4;have H1:(some false)=some r:=by rw [if_neg (show ¬(false=true) by decide)] at H;exact H
  clear H;have H:=H1;clear H1;obtain rfl:=Option.some.inj H;go_enter Try.func101,Try.ntmps101;go_wp2_with (first|((with_reducible refine gate_callee (f:=47) rfl ?_);refine goesL_ (some 7) rfl rfl Try.func47 (by kernel_rfl) rfl #[.int .i64 a0,.int .i64 1,.int .i64 a1] rfl qB50 ?_;(with_reducible refine(impl_within.calls a0 1 a1 false _ A3.1).mono ?_);rintro e w' ⟨rfl,⟨nd,rfl⟩⟩;refine⟨_,rfl,?_⟩));go_ret;exact⟨by first|rfl|(simp [errW_none,errW_some] <;> rfl)|(simp [*,errW_none,errW_some] <;> rfl),by repeat(first|(with_reducible first|exact HB.1|apply below_alloc|apply pw_below_drewN|apply below_drew1)|exact HB.1)⟩

/-! ### impl_unitsOf: function 93 -/
def impl_unitsOf.l0:Nat→Int→List Int→Int→Option (List Int)
 |0,_,_,_=>none
 |k+1,x0,x3,x4=>if x4≤x0 then ((impl_isPrimeTo.f k x4 x0).bind fun t374=>(if t374=true then (if x3.length<17592186044416 then (impl_unitsOf.l0 k x0 (x3 ++ [x4]) (wrap64 (x4+1))) else (none)) else (impl_unitsOf.l0 k x0 x3 (wrap64 (x4+1))))) else (some x3)
def impl_unitsOf.f (k:Nat) (a0:Int):Option (List Int):=impl_unitsOf.l0 k a0 (([]:List Int)) 1
theorem impl_unitsOf.mono_l:∀k,(∀y0 y1 y2,LeO (impl_unitsOf.l0 k y0 y1 y2) (impl_unitsOf.l0 (k+1) y0 y1 y2))
 |0=>fun _ _ _ r h=>by simp [impl_unitsOf.l0] at h
 |k+1=>by
  have ih0:=impl_unitsOf.mono_l k
  ·intro y0 y1 y2;unfold impl_unitsOf.l0;repeat' first
   |(with_reducible exact ih0 _ _ _)
   |(with_reducible exact impl_isPrimeTo.mono _ _ _)
   |(with_reducible exact LeO.refl _)
   |(with_reducible exact LeO.none _)
   |(with_reducible refine LeO.ite ?_ ?_)
   |(with_reducible refine LeO.bind ?_ (fun _=>?_))
   |exact ih0 _ _ _
   |exact impl_isPrimeTo.mono _ _ _
   |exact LeO.none _
   |refine LeO.ite ?_ ?_
   |refine LeO.bind ?_ (fun _=>?_)
theorem impl_unitsOf.mono:∀a0 k,LeO (impl_unitsOf.f k a0) (impl_unitsOf.f (k+1) a0):=by
 intro a0 k;have ih0:=impl_unitsOf.mono_l k;unfold impl_unitsOf.f;repeat' first
   |(with_reducible exact ih0 _ _ _)
   |(with_reducible exact impl_isPrimeTo.mono _ _ _)
   |(with_reducible exact LeO.refl _)
   |(with_reducible exact LeO.none _)
   |(with_reducible refine LeO.ite ?_ ?_)
   |(with_reducible refine LeO.bind ?_ (fun _=>?_))
   |exact ih0 _ _ _
   |exact impl_isPrimeTo.mono _ _ _
   |exact LeO.none _
   |refine LeO.ite ?_ ?_
   |refine LeO.bind ?_ (fun _=>?_)
set_option maxHeartbeats 8000000 in
set_option maxRecDepth 100000 in
theorem impl_unitsOf.calls (k:Nat) (a0:Int) (r:List Int) (w:World) (h:impl_unitsOf.f k a0=some r):
  Calls Try.prog 93 #[.int .i64 a0] w fun e w'=>∃v0_:Value,e=.returned (v0_)∧Kd.R (Kd.int .i64) 2 w' w.heap.size (fun _=>True) v0_ r∧Below w.heap.size w w':=by
 have HB:=qAm (Below.refl w.heap.size w);have H:(impl_unitsOf.l0 k a0 (([]:List Int)) 1)=some r:=h;clear h;obtain⟨y371,hy371⟩:∃y_:List Int,y_=(([]:List Int)):=⟨_,rfl⟩
 replace H:(impl_unitsOf.l0 k a0 y371 1)=some r:=by first|(rw [hy371];with_reducible exact H)|(have H2_:=(Option.bind_some _ _).symm.trans H;rw [hy371];with_reducible exact H2_)|(have H2_:=(Option.bind_some _ _).symm.trans H;with_reducible exact H2_)|with_reducible exact H|(rw [hy371];exact H)|exact H
 have Ny371:=qAm hy371;clear hy371;have H':=qAm H;clear H;go_enter Try.func93,Try.ntmps93;go_wp2_with (first|((with_reducible refine gate_dst (N:=5) rfl ?_);refine Kd.R_lit (Kd.int .i64) _ 2 ?hg (N:=5) ?hd (xs:=([]:List Int)) (inner:=[]) (ok:=fun _=>True) (okp:=fun _=>True) ?hr ?hp (fun _ hk=>hk) trivial (Below.refl _ _) (Nat.le_refl _) (by simp) ?_;(case hd=>rfl);(case hg=>rfl);(case hr=>first|(go_simp;done)|(go_simp;rfl));(case hp=>exact(Reps.none _ _));intro v372 w2 ho3 hb hg_ hnew_;clear hg_ hnew_;(first|rw [← Ny371.1] at ho3|(simp only [Int.reduceToNat] at ho3;rw [← Ny371.1] at ho3));have n0_:=qAm (Kd.R_lower ho3 (below_size qB53));have n1_:=qAm (below_step qB53 hb);clear HB;have HO373:=n0_;have HB:=n1_;clear n0_ n1_;clear hb ho3));try simp only [Act.put,qSa,qSc,qSb]
 go_loopg [3,4] k (fun kq v3 v4 w'=>∃(x3_1:List Int) (x4_1:Int),v4=.int .i64 x4_1∧Aside0 (impl_unitsOf.l0 kq a0 x3_1 x4_1=some r)∧Aside0 (kq≤k)∧Aside0 (Kd.R (Kd.int .i64) 2 w' w.heap.size (fun _=>True) v3 x3_1)∧Aside0 (Below w.heap.size w w'))
 case atStart=>exact⟨(y371),(1),qB107,H',⟨Nat.le_refl _⟩,⟨by (with_reducible repeat(first|apply Kd.R_alloc|apply Kd.R_drewN|apply Kd.R_drew));exact HO373.1⟩,⟨by repeat(first|(with_reducible first|exact HB.1|apply below_alloc|apply pw_below_drewN|apply below_drew1)|exact HB.1)⟩⟩
 case round=>
  clear H';try clear p2
  obtain⟨x3_1,x4_1,rfl,HA,HK1,HO_3,HB⟩:=hrel;cases gk with
  |zero=>exact absurd HA.1 (by simp [impl_unitsOf.l0])
  |succ k1=>
   have H:=HA.1;clear HA;simp only [impl_unitsOf.l0] at H
   by_cases c4:x4_1≤a0
   ·rw [if_pos c4] at H;have c4b0:decide (x4_1≤a0)=true:=decide_eq_true c4;clear c4;replace H:=qOb H;obtain⟨t374,A50,H⟩:=H;replace H:(if t374=true then (if x3_1.length<17592186044416 then (impl_unitsOf.l0 k1 a0 (x3_1 ++ [x4_1]) (wrap64 (x4_1+1))) else (none)) else (impl_unitsOf.l0 k1 a0 x3_1 (wrap64 (x4_1+1))))=some r:=H;have A5:=qAm A50;clear A50
    by_cases c6:t374=true
    ·subst c6;have H1:(if x3_1.length<17592186044416 then (impl_unitsOf.l0 k1 a0 (x3_1 ++ [x4_1]) (wrap64 (x4_1+1))) else (none))=some r:=by rw [if_pos rfl] at H;exact H
     clear H;have H:=H1;clear H1
     by_cases c7:x3_1.length<17592186044416
     ·rw [if_pos c7] at H;have LMc7:=qAm c7;clear c7;obtain⟨y375,hy375⟩:∃y_:List Int,y_=(x3_1 ++ [x4_1]):=⟨_,rfl⟩
      replace H:(impl_unitsOf.l0 k1 a0 y375 (wrap64 (x4_1+1)))=some r:=by first|(rw [hy375];with_reducible exact H)|(have H2_:=(Option.bind_some _ _).symm.trans H;rw [hy375];with_reducible exact H2_)|(have H2_:=(Option.bind_some _ _).symm.trans H;with_reducible exact H2_)|with_reducible exact H|(rw [hy375];exact H)|exact H
      have Ny375:=qAm hy375;clear hy375;have H':=qAm H;clear H;go_wp2_with (first|((with_reducible refine gate_callee (f:=101) rfl ?_);refine goesL_ (some 13) rfl rfl Try.func101 (by kernel_rfl) rfl #[.int .i64 x4_1,.int .i64 a0] rfl qB50 ?_;(with_reducible refine(impl_isPrimeTo.calls k1 x4_1 a0 true _ A5.1).mono ?_);rintro e w8 ⟨rfl,hb⟩;refine⟨_,rfl,?_⟩;have n0_:=qAm (Kd.R_below qB97 hb);have n1_:=qAm (below_step qB53 hb);clear HO_3;clear HB;have HO_3:=n0_;have HB:=n1_;clear n0_ n1_;(try clear hb);(try clear hb2);(try clear hk);(try clear hi))|((with_reducible refine gate_builtin (b:=.append) (xs:=#[.tmp 14,.tmp 16]) rfl ?_);at_builtin;refine Kd.R_append (Kd.int .i64) (w0:=w) w.heap.size rfl (.tmp 14) (.tmp 16) 22 2 (.int .i64 0) 8 rfl Try.underlying22 info2 rfl (by decide) (by omega) u3 x3_1 x4_1 [.int .i64 x4_1] (fun _=>True) (fun _=>False) rfl rfl ?aP (fun _ hk=>hk.elim) ?aF ?aO ?aB ?aS ?aL ?_;(case aP=>exact rfl);(case aB=>exact qB53);(case aF=>exact(fun _ _=>trivial));(case aO=>exact qB97);(case aS=>exact(below_size qB53));(case aL=>have:=LMc7.1;omega);intro v376 w9 ho hb hg hat;rw [← Ny375.1] at ho;have n0_:=qAm (hb);have n1_:=qAm (ho);clear HB;clear HO_3;have HB:=n0_;have HO377:=n1_;clear n0_ n1_;clear ho hb hg hat))
      (first|go_roundg k1|((try simp only [add_plain] at *);go_roundg k1))
      case measure=>have:=HK1.1;omega
      case rel=>exact⟨(y375),(wrap64 (x4_1+1)),qB107,H',⟨by have:=HK1.1;omega⟩,⟨by (with_reducible repeat(first|apply Kd.R_alloc|apply Kd.R_drewN|apply Kd.R_drew));exact HO377.1⟩,⟨by repeat(first|(with_reducible first|exact HB.1|apply below_alloc|apply pw_below_drewN|apply below_drew1)|exact HB.1)⟩⟩
     ·rw [if_neg c7] at H;exact absurd H (by simp)
    ·replace c6:=Bool.eq_false_iff.mpr c6;subst c6;have H1:(impl_unitsOf.l0 k1 a0 x3_1 (wrap64 (x4_1+1)))=some r:=by rw [if_neg (show ¬(false=true) by decide)] at H;exact H
     clear H;have H:=H1;clear H1;have H':=qAm H;clear H;go_wp2_with (first|((with_reducible refine gate_callee (f:=101) rfl ?_);refine goesL_ (some 13) rfl rfl Try.func101 (by kernel_rfl) rfl #[.int .i64 x4_1,.int .i64 a0] rfl qB50 ?_;(with_reducible refine(impl_isPrimeTo.calls k1 x4_1 a0 false _ A5.1).mono ?_);rintro e w10 ⟨rfl,hb⟩;refine⟨_,rfl,?_⟩;have n0_:=qAm (Kd.R_below qB97 hb);have n1_:=qAm (below_step qB53 hb);clear HO_3;clear HB;have HO_3:=n0_;have HB:=n1_;clear n0_ n1_;(try clear hb);(try clear hb2);(try clear hk);(try clear hi)))
     (first|go_roundg k1|((try simp only [add_plain] at *);go_roundg k1))
     case measure=>have:=HK1.1;omega
     case rel=>exact⟨(x3_1),(wrap64 (x4_1+1)),qB107,H',⟨by have:=HK1.1;omega⟩,⟨by (with_reducible repeat(first|apply Kd.R_alloc|apply Kd.R_drewN|apply Kd.R_drew));exact HO_3.1⟩,⟨by repeat(first|(with_reducible first|exact HB.1|apply below_alloc|apply pw_below_drewN|apply below_drew1)|exact HB.1)⟩⟩
   ·rw [if_neg c4] at H;have c4b0:decide (x4_1≤a0)=false:=decide_eq_false c4;clear c4;obtain rfl:=Option.some.inj H;go_wp2;go_ret;exact⟨_,by first|rfl|(simp [errW_none,errW_some] <;> rfl)|(simp [*,errW_none,errW_some] <;> rfl),by (with_reducible repeat(first|apply Kd.R_alloc|apply Kd.R_drewN|apply Kd.R_drew));exact HO_3.1,by repeat(first|(with_reducible first|exact HB.1|apply below_alloc|apply pw_below_drewN|apply below_drew1)|exact HB.1)⟩

/-! ### impl_field_images: function 77 -/
def impl_field_images.l0:Nat→List Int→List (List Int)→List Int→Int→Int→Int→Int→List (List Int)→Option ((List (List Int))×Int×Int)
 |0,_,_,_,_,_,_,_,_=>none
 |k+1,x1,x5,x13,x14,x15,x1000,x1001,x1002=>if x15<x14 then (if 0≤x15 then (if x15<(x13.length:Int) then ((impl_field_image.f k x1000 x1001 x1002 x1 (rd x13 x15)).bind fun bt385=>(if x5.length<5864062014805 then (impl_field_images.l0 k x1 (x5 ++ [bt385.1]) x13 x14 (wrap64 (x15+1)) bt385.2.1 bt385.2.2 x1002) else (none))) else (none)) else (none)) else (some (x5,x1000,x1001))
def impl_field_images.f (k:Nat) (s0_0:Int) (s0_1:Int) (s0_2:List (List Int)) (l1:List Int):Option ((List (List Int))×Int×Int):=(impl_unitsOf.f k s0_0).bind fun t381=>(impl_field_images.l0 k l1 (([]:List (List Int))) t381 (t381.length:Int) 0 s0_0 s0_1 s0_2)
theorem impl_field_images.mono_l:∀k,(∀y0 y1 y2 y3 y4 y5 y6 y7,LeO (impl_field_images.l0 k y0 y1 y2 y3 y4 y5 y6 y7) (impl_field_images.l0 (k+1) y0 y1 y2 y3 y4 y5 y6 y7))
 |0=>fun _ _ _ _ _ _ _ _ r h=>by simp [impl_field_images.l0] at h
 |k+1=>by
  have ih0:=impl_field_images.mono_l k
  ·intro y0 y1 y2 y3 y4 y5 y6 y7;unfold impl_field_images.l0;repeat' first
   |(with_reducible exact ih0 _ _ _ _ _ _ _ _)
   |(with_reducible exact impl_field_image.mono _ _ _ _ _ _)
   |(with_reducible exact impl_unitsOf.mono _ _)
   |(with_reducible exact LeO.refl _)
   |(with_reducible exact LeO.none _)
   |(with_reducible refine LeO.ite ?_ ?_)
   |(with_reducible refine LeO.bind ?_ (fun _=>?_))
   |exact ih0 _ _ _ _ _ _ _ _
   |exact impl_field_image.mono _ _ _ _ _ _
   |exact impl_unitsOf.mono _ _
   |exact LeO.none _
   |refine LeO.ite ?_ ?_
   |refine LeO.bind ?_ (fun _=>?_)
theorem impl_field_images.mono:∀a0 a1 a2 a3 k,LeO (impl_field_images.f k a0 a1 a2 a3) (impl_field_images.f (k+1) a0 a1 a2 a3):=by
 intro a0 a1 a2 a3 k;have ih0:=impl_field_images.mono_l k;unfold impl_field_images.f;repeat' first
   |(with_reducible exact ih0 _ _ _ _ _ _ _ _)
   |(with_reducible exact impl_field_image.mono _ _ _ _ _ _)
   |(with_reducible exact impl_unitsOf.mono _ _)
   |(with_reducible exact LeO.refl _)
   |(with_reducible exact LeO.none _)
   |(with_reducible refine LeO.ite ?_ ?_)
   |(with_reducible refine LeO.bind ?_ (fun _=>?_))
   |exact ih0 _ _ _ _ _ _ _ _
   |exact impl_field_image.mono _ _ _ _ _ _
   |exact impl_unitsOf.mono _ _
   |exact LeO.none _
   |refine LeO.ite ?_ ?_
   |refine LeO.bind ?_ (fun _=>?_)
set_option maxHeartbeats 8000000 in
set_option maxRecDepth 100000 in
theorem impl_field_images.calls (k:Nat) (g:Nat) (s0_0:Int) (s0_1:Int) (s0_2:List (List Int)) (A1:Option Addr) (c1:Nat) (l1:List Int) (r1:List (List Int)) (r2:Int) (r3:Int) (w0 w:World) (hI:IsS52 w0 w g s0_0 s0_1 s0_2) (hB:Below w0.heap.size w0 w) (hr1:Kd.C (Kd.int .i64) w A1 l1.length l1) (hc1:l1.length≤c1) (hf1:∀ad,A1=some ad→0<l1.length→ad.block≠g) (h:impl_field_images.f k s0_0 s0_1 s0_2 l1=some (r1,r2,r3)):
  Calls Try.prog 77 #[.pointer (some ⟨g,0,none⟩),.slice A1 l1.length c1] w fun e w'=>∃v0_:Value,e=.returned (v0_)∧Kd.S (Kd.slice 2 (Kd.int .i64)) 22 w' w.heap.size (fun _=>True) v0_ r1∧IsS52 w0 w' g r2 r3 s0_2∧Below w0.heap.size w0 w'∧KeepBut w w' g none:=by
 have HR1:=qAm hr1;have HC1:=qAm hc1;clear hr1 hc1;have HI0:=qAm hI;have HK:=qAm (KeepBut.refl w g none);have HL:=qAm hB.size;clear hI;have HW0:=qAm hB.size;have HB:=qAm hB;clear hB;have H:((impl_unitsOf.f k s0_0).bind fun t381=>(impl_field_images.l0 k l1 (([]:List (List Int))) t381 (t381.length:Int) 0 s0_0 s0_1 s0_2))=some (r1,r2,r3):=h;clear h;obtain⟨y378,hy378⟩:∃y_:List (List Int),y_=(([]:List (List Int))):=⟨_,rfl⟩
 replace H:((impl_unitsOf.f k s0_0).bind fun t381=>(impl_field_images.l0 k l1 y378 t381 (t381.length:Int) 0 s0_0 s0_1 s0_2))=some (r1,r2,r3):=by first|(rw [hy378];with_reducible exact H)|(have H2_:=(Option.bind_some _ _).symm.trans H;rw [hy378];with_reducible exact H2_)|(have H2_:=(Option.bind_some _ _).symm.trans H;with_reducible exact H2_)|with_reducible exact H|(rw [hy378];exact H)|exact H
 have Ny378:=qAm hy378;clear hy378;replace H:=qOb H;obtain⟨t381,A30,H⟩:=H;replace H:(impl_field_images.l0 k l1 y378 t381 (t381.length:Int) 0 s0_0 s0_1 s0_2)=some (r1,r2,r3):=H;have A3:=qAm A30;clear A30;have H':=qAm H;clear H;go_enter Try.func77,Try.ntmps77;go_wp2_with (first|((with_reducible refine gate_dst (N:=8) rfl ?_);refine Kd.S_lit (Kd.slice 2 (Kd.int .i64)) _ 22 ?hg (N:=8) ?hd (xs:=([]:List (List Int))) (inner:=[]) (ok:=fun _=>True) (okp:=fun _=>True) ?hr ?hp (fun _ hk=>hk) trivial (Below.refl _ _) (Nat.le_refl _) (by simp) ?_;(case hd=>rfl);(case hg=>rfl);(case hr=>first|(go_simp;done)|(go_simp;rfl));(case hp=>exact(Reps.none _ _));intro v379 w4 ho5 hb hg_ hnew_;clear hg_ hnew_;(first|rw [← Ny378.1] at ho5|(simp only [Int.reduceToNat] at ho5;rw [← Ny378.1] at ho5));have n0_:=qAm (Kd.S_lower ho5 (keep_size (w:=w) (g:=g) (row:=none) qB45));have n1_:=qAm (IsS52.below qB25 hb);have n2_:=qAm (KeepBut.trans qB45 (KeepBut.of_below hb g none) (.inl rfl));have n3_:=qAm (below_step qB24 hb);clear HI0;clear HK;clear HB;have HO380:=n0_;have HI0:=n1_;have HK:=n2_;have HB:=n3_;clear n0_ n1_ n2_ n3_;clear hb ho5;obtain⟨ASz6_2,cSz6_2,HGz6,hgz6,HSz6_2⟩:=HI0.1;have hcz6_0:=cellS52_0 HGz6;have hcz6_1:=cellS52_1 HGz6;have hcz6_2:=cellS52_2 HGz6;have hfz6_0:=blk_frozen HGz6 0;have hfz6_1:=blk_frozen HGz6 1;clear HGz6 hgz6)|((with_reducible refine gate_callee (f:=93) rfl ?_);refine goesL_ (some 13) rfl rfl Try.func93 (by kernel_rfl) rfl #[.int .i64 s0_0] rfl qB50 ?_;(with_reducible refine(impl_unitsOf.calls k s0_0 t381 _ A3.1).mono ?_);rintro e w7 ⟨v382,rfl,ho0,hb⟩;refine⟨_,rfl,?_⟩;have n0_:=qAm (Kd.S_elder' (by (with_reducible repeat(first|apply Kd.S_alloc|apply Kd.S_drewN|apply Kd.S_drew));exact HO380.1) (Kd.R_base ho0) hb);have n1_:=qAm (Kd.R_lower ho0 (keep_size (w:=w) (g:=g) (row:=none) qB45));have n2_:=qAm (IsS52.below qB25 hb);have n3_:=qAm (KeepBut.trans qB45 (KeepBut.of_below hb g none) (.inl rfl));have n4_:=qAm (below_step qB24 hb);clear HO380;clear HI0;clear HK;clear HB;have HO380:=n0_;have HO383:=n1_;have HI0:=n2_;have HK:=n3_;have HB:=n4_;clear n0_ n1_ n2_ n3_ n4_;(try clear hb);(try clear hb2);(try clear hk);(try clear hi);(try clear ho0);obtain⟨Ao8,co8,eo8⟩:=Kd.R_slice HO383.1;subst eo8));try simp only [Act.put,qSa,qSc,qSb]
 go_loopg [5,15] k (fun kq v5 v15 w'=>∃(x5_1:List (List Int)) (x15_1:Int) (x1000_1:Int) (x1001_1:Int),v15=.int .i64 x15_1∧Aside0 (impl_field_images.l0 kq l1 x5_1 t381 (t381.length:Int) x15_1 x1000_1 x1001_1 s0_2=some (r1,r2,r3))∧Aside0 (kq≤k)∧Aside0 (Kd.S (Kd.slice 2 (Kd.int .i64)) 22 w' w.heap.size (fun k_=>some k_≠((.slice Ao8 t381.length co8):Value).ownBlock) v5 x5_1)∧Aside0 (Kd.R (Kd.int .i64) 2 w' w.heap.size (fun _=>True) (.slice Ao8 t381.length co8) t381)∧Aside0 (IsS52 w0 w' g x1000_1 x1001_1 s0_2)∧Aside0 (KeepBut w w' g none)∧Aside0 (Below w0.heap.size w0 w'))
 case atStart=>exact⟨(y378),(0),(s0_0),(s0_1),qB107,H',⟨Nat.le_refl _⟩,⟨by (with_reducible repeat(first|apply Kd.S_alloc|apply Kd.S_drewN|apply Kd.S_drew));exact Kd.S_mono HO380.1 (fun _ hk=>hk.2)⟩,⟨by (with_reducible repeat(first|apply Kd.R_alloc|apply Kd.R_drewN|apply Kd.R_drew));exact HO383.1⟩,⟨by repeat(first|(with_reducible first|exact HI0.1|apply IsS52.alloc|apply IsS52.drewN|apply IsS52.drew|apply IsS52.set_0|apply IsS52.set_1)|exact HI0.1)⟩,⟨by repeat(first|(with_reducible first|exact HK.1|apply KeepBut.set_|apply keep_drewN|apply keep_drew|apply keep_alloc)|exact HK.1)⟩,⟨by repeat(first|(with_reducible first|exact HB.1|apply below_alloc|apply pw_below_drewN|apply below_drew1|refine below_set ?_ (IsS52.ge HI0.1))|exact HB.1)⟩⟩
 case round=>
  clear H';try clear c1
  try clear p2
  try clear c7
  try clear hcz6_0
  try clear hcz6_1
  try clear hcz6_2
  try clear hfz6_0
  try clear hfz6_1
  obtain⟨x5_1,x15_1,x1000_1,x1001_1,rfl,HA,HK1,HO_5,HO_13,HI0,HK,HB⟩:=hrel;cases gk with
  |zero=>exact absurd HA.1 (by simp [impl_field_images.l0])
  |succ k1=>
   have H:=HA.1;clear HA;simp only [impl_field_images.l0] at H
   by_cases c9:x15_1<(t381.length:Int)
   ·rw [if_pos c9] at H;have c9b0:decide (x15_1<(t381.length:Int))=true:=decide_eq_true c9;clear c9
    by_cases c10:0≤x15_1
    ·rw [if_pos c10] at H;have c10b0:decide (0≤x15_1)=true:=decide_eq_true c10;clear c10
     by_cases c11:x15_1<(t381.length:Int)
     ·rw [if_pos c11] at H;have c11b0:decide (x15_1<(t381.length:Int))=true:=decide_eq_true c11;clear c11;replace H:=qOb H;obtain⟨⟨t385,t388,t389⟩,A120,H⟩:=H;replace H:(if x5_1.length<5864062014805 then (impl_field_images.l0 k1 l1 (x5_1 ++ [t385]) t381 (t381.length:Int) (wrap64 (x15_1+1)) t388 t389 s0_2) else (none))=some (r1,r2,r3):=H;have A12:=qAm A120;clear A120
      by_cases c13:x5_1.length<5864062014805
      ·rw [if_pos c13] at H;have LMc13:=qAm c13;clear c13;obtain⟨y390,hy390⟩:∃y_:List (List Int),y_=(x5_1 ++ [t385]):=⟨_,rfl⟩
       replace H:(impl_field_images.l0 k1 l1 y390 t381 (t381.length:Int) (wrap64 (x15_1+1)) t388 t389 s0_2)=some (r1,r2,r3):=by first|(rw [hy390];with_reducible exact H)|(have H2_:=(Option.bind_some _ _).symm.trans H;rw [hy390];with_reducible exact H2_)|(have H2_:=(Option.bind_some _ _).symm.trans H;with_reducible exact H2_)|with_reducible exact H|(rw [hy390];exact H)|exact H
       have Ny390:=qAm hy390;clear hy390;have H':=qAm H;clear H;have p384:0≤(x15_1:Int):=of_decide_eq_true qB106;have q384:x15_1<(t381.length:Int):=of_decide_eq_true qB106;obtain⟨ad384,e384,hx384_0⟩:=Kd.at_int (Kd.R_reads' HO_13.1).2.2 x15_1 p384 q384;cases e384
       replace p384:=eq_true p384;replace q384:=eq_true q384;go_wp2_with (first|((with_reducible refine gate_callee (f:=51) rfl ?_);refine goesL_ (some 23) rfl rfl Try.func51 (by kernel_rfl) rfl #[.pointer (some ⟨g,0,none⟩),.slice A1 l1.length c1,.int .i64 (rd t381 x15_1)] rfl qB50 ?_;(with_reducible refine(impl_field_image.calls k1 g x1000_1 x1001_1 s0_2 _ _ l1 (rd t381 x15_1) t385 t388 t389 w0 _ ?side1 ?side2 ?side3 ?side4 ?side5 A12.1).mono ?_);(case side1=>repeat(first|(with_reducible first|exact HI0.1|apply IsS52.alloc|apply IsS52.drewN|apply IsS52.drew|apply IsS52.set_0|apply IsS52.set_1)|exact HI0.1));(case side2=>repeat(first|(with_reducible first|exact HB.1|apply below_alloc|apply pw_below_drewN|apply below_drew1|refine below_set ?_ (IsS52.ge HI0.1))|exact HB.1));(case side3=>exact Kd.C_keep 0 HR1.1 qB45 hf1);(case side4=>exact HC1.1);(case side5=>exact hf1);rintro e w14 ⟨v386,rfl,ho0,hi,hb,hk⟩;refine⟨_,rfl,?_⟩;have n0_:=qAm (Kd.S_mono (Kd.S_told (Kd.S_oldK (IsS52.apartS (show IsS52 w0 _ g x1000_1 x1001_1 s0_2 from by repeat(first|(with_reducible first|exact HI0.1|apply IsS52.alloc|apply IsS52.drewN|apply IsS52.drew|apply IsS52.set_0|apply IsS52.set_1)|exact HI0.1)) qB103 (by decide)) hk) (Kd.R_base ho0)) (fun _ h_=>h_.1));have n1_:=qAm (Kd.R_mono (Kd.R_told (Kd.R_oldK (IsS52.apart (show IsS52 w0 _ g x1000_1 x1001_1 s0_2 from by repeat(first|(with_reducible first|exact HI0.1|apply IsS52.alloc|apply IsS52.drewN|apply IsS52.drew|apply IsS52.set_0|apply IsS52.set_1)|exact HI0.1)) qB95 (by decide)) hk) (Kd.R_base ho0)) (fun _ h_=>h_.1));have n2_:=qAm (Kd.R_lower (Kd.R_new' ho0 (Kd.R_lt qB95)) (keep_size (w:=w) (g:=g) (row:=none) qB45));have n3_:=qAm (KeepBut.trans qB45 hk (.inl rfl));have n4_:=qAm (hb);have n5_:=qAm (hi);clear HO_5;clear HO_13;clear HK;clear HB;clear HI0;have HO_5:=n0_;have HO_13:=n1_;have HO387:=n2_;have HK:=n3_;have HB:=n4_;have HI0:=n5_;clear n0_ n1_ n2_ n3_ n4_ n5_;(try clear hb);(try clear hb2);(try clear hk);(try clear hi);(try clear ho0);obtain⟨Ao16,co16,eo16⟩:=Kd.R_slice HO387.1;subst eo16)|((with_reducible refine gate_builtin (b:=.append) (xs:=#[.tmp 19,.tmp 24]) rfl ?_);at_builtin;refine Kd.S_append (Kd.slice 2 (Kd.int .i64)) w.heap.size rfl (.tmp 19) (.tmp 24) 50 22 (.slice none 0 0) 24 rfl Try.underlying50 info22 rfl (by decide) (by omega) u5 x5_1 t385 [.slice Ao16 t385.length co16] (fun k_=>some k_≠(.slice (some ad384) t381.length co8:Value).ownBlock) (fun k_=>some k_=(.slice Ao16 t385.length co16:Value).ownBlock) rfl rfl ?aP (fun k_ hk_=>((Kd.R_mono (ok':=fun k_=>((fun k_=>some k_≠(.slice (some ad384) t381.length co8:Value).ownBlock)) k_∧some k_≠(u5:Value).ownBlock) (Kd.R_apart' (HO387.1) (Kd.S_typed HO_5.1) (by decide)) (fun k_ hk=>⟨hk.1.2,hk.2⟩))).1 k_ hk_.symm) ?aF ?aO (Below.refl _ _) ?aS ?aL ?_;(case aP=>exact Kd.M_row (Kd.R_mono (Kd.R_tight rfl (Kd.R_mono (ok':=fun k_=>((fun k_=>some k_≠(.slice (some ad384) t381.length co8:Value).ownBlock)) k_∧some k_≠(u5:Value).ownBlock) (Kd.R_apart' (HO387.1) (Kd.S_typed HO_5.1) (by decide)) (fun k_ hk=>⟨hk.1.2,hk.2⟩))) (fun _ h_=>h_)));(case aF=>exact(fun k_ hk=>Kd.fresh' (Kd.R_lt qB95) k_ hk));(case aO=>exact(by (with_reducible repeat(first|apply Kd.S_alloc|apply Kd.S_drewN|apply Kd.S_drew));exact Kd.S_mono HO_5.1 (fun k_ hk=>⟨hk.1,fun e_=>hk.2 e_⟩)));(case aS=>exact(keep_size (w:=w) (g:=g) (row:=none) qB45));(case aL=>have:=LMc13.1;omega);intro v391 w15 ho hb hg hat;rw [← Ny390.1] at ho;have n0_:=qAm (Kd.R_over' qB95 (Kd.S_typed qB103) (by decide) hg);have n1_:=qAm (IsS52.grown qB25 hg (IsS52.own_neS HI0.1 HO_5.1 (by decide)));have n2_:=qAm (below_weaken qB24 HL.1 hb);have n3_:=qAm (KeepBut.trans qB45 (KeepBut.of_grown hg g) (Kd.S_base2 HO_5.1));have n4_:=qAm (ho);clear HO_13;clear HI0;clear HB;clear HK;clear HO_5;clear HO387;have HO_13:=n0_;have HI0:=n1_;have HB:=n2_;have HK:=n3_;have HO392:=n4_;clear n0_ n1_ n2_ n3_ n4_;clear ho hb hg hat))
       (first|go_roundg k1|((try simp only [add_plain] at *);go_roundg k1))
       case measure=>have:=HK1.1;omega
       case rel=>exact⟨(y390),(wrap64 (x15_1+1)),(t388),(t389),qB107,H',⟨by have:=HK1.1;omega⟩,⟨by (with_reducible repeat(first|apply Kd.S_alloc|apply Kd.S_drewN|apply Kd.S_drew));exact HO392.1⟩,⟨by (with_reducible repeat(first|apply Kd.R_alloc|apply Kd.R_drewN|apply Kd.R_drew));exact Kd.R_mono HO_13.1 (fun _ hk=>trivial)⟩,⟨by repeat(first|(with_reducible first|exact HI0.1|apply IsS52.alloc|apply IsS52.drewN|apply IsS52.drew|apply IsS52.set_0|apply IsS52.set_1)|exact HI0.1)⟩,⟨by repeat(first|(with_reducible first|exact HK.1|apply KeepBut.set_|apply keep_drewN|apply keep_drew|apply keep_alloc)|exact HK.1)⟩,⟨by repeat(first|(with_reducible first|exact HB.1|apply below_alloc|apply pw_below_drewN|apply below_drew1|refine below_set ?_ (IsS52.ge HI0.1))|exact HB.1)⟩⟩
      ·rw [if_neg c13] at H;exact absurd H (by simp)
     ·rw [if_neg c11] at H;exact absurd H (by simp)
    ·rw [if_neg c10] at H;exact absurd H (by simp)
   ·rw [if_neg c9] at H;have c9b0:decide (x15_1<(t381.length:Int))=false:=decide_eq_false c9;clear c9;simp only [Option.some.injEq,Prod.mk.injEq] at H;obtain⟨rfl,rfl,rfl⟩:=H;go_wp2;go_ret;exact⟨_,by first|rfl|(simp [errW_none,errW_some] <;> rfl)|(simp [*,errW_none,errW_some] <;> rfl),by (with_reducible repeat(first|apply Kd.S_alloc|apply Kd.S_drewN|apply Kd.S_drew));exact Kd.S_mono HO_5.1 (fun _ hk=>trivial),by repeat(first|(with_reducible first|exact HI0.1|apply IsS52.alloc|apply IsS52.drewN|apply IsS52.drew|apply IsS52.set_0|apply IsS52.set_1)|exact HI0.1),by repeat(first|(with_reducible first|exact HB.1|apply below_alloc|apply pw_below_drewN|apply below_drew1|refine below_set ?_ (IsS52.ge HI0.1))|exact HB.1),by repeat(first|(with_reducible first|exact HK.1|apply KeepBut.set_|apply keep_drewN|apply keep_drew|apply keep_alloc)|exact HK.1)⟩

/-! ### impl_field_trace: function 52 -/
def impl_field_trace.l0:Nat→Int→List (List Int)→Int→Int→Int→Int→List (List Int)→Option (Int×Int×Int)
 |0,_,_,_,_,_,_,_=>none
 |k+1,x5,x10,x11,x12,x1000,x1001,x1002=>if x12<x11 then (if 0≤x12 then (if x12<(x10.length:Int) then (if 0<((rd_L1 x10 x12).length:Int) then (impl_field_trace.l0 k (wrap64 (x5+(rd (rd_L1 x10 x12) 0))) x10 x11 (wrap64 (x12+1)) x1000 x1001 x1002) else (none)) else (none)) else (none)) else (some (x5,x1000,x1001))
def impl_field_trace.f (k:Nat) (s0_0:Int) (s0_1:Int) (s0_2:List (List Int)) (l1:List Int):Option (Int×Int×Int):=(impl_field_images.f k s0_0 s0_1 s0_2 l1).bind fun bt393=>(impl_field_trace.l0 k 0 bt393.1 (bt393.1.length:Int) 0 bt393.2.1 bt393.2.2 s0_2)
theorem impl_field_trace.mono_l:∀k,(∀y0 y1 y2 y3 y4 y5 y6,LeO (impl_field_trace.l0 k y0 y1 y2 y3 y4 y5 y6) (impl_field_trace.l0 (k+1) y0 y1 y2 y3 y4 y5 y6))
 |0=>fun _ _ _ _ _ _ _ r h=>by simp [impl_field_trace.l0] at h
 |k+1=>by
  have ih0:=impl_field_trace.mono_l k
  ·intro y0 y1 y2 y3 y4 y5 y6;unfold impl_field_trace.l0;repeat' first
   |(with_reducible exact ih0 _ _ _ _ _ _ _)
   |(with_reducible exact impl_field_images.mono _ _ _ _ _)
   |(with_reducible exact LeO.refl _)
   |(with_reducible exact LeO.none _)
   |(with_reducible refine LeO.ite ?_ ?_)
   |(with_reducible refine LeO.bind ?_ (fun _=>?_))
   |exact ih0 _ _ _ _ _ _ _
   |exact impl_field_images.mono _ _ _ _ _
   |exact LeO.none _
   |refine LeO.ite ?_ ?_
   |refine LeO.bind ?_ (fun _=>?_)
theorem impl_field_trace.mono:∀a0 a1 a2 a3 k,LeO (impl_field_trace.f k a0 a1 a2 a3) (impl_field_trace.f (k+1) a0 a1 a2 a3):=by
 intro a0 a1 a2 a3 k;have ih0:=impl_field_trace.mono_l k;unfold impl_field_trace.f;repeat' first
   |(with_reducible exact ih0 _ _ _ _ _ _ _)
   |(with_reducible exact impl_field_images.mono _ _ _ _ _)
   |(with_reducible exact LeO.refl _)
   |(with_reducible exact LeO.none _)
   |(with_reducible refine LeO.ite ?_ ?_)
   |(with_reducible refine LeO.bind ?_ (fun _=>?_))
   |exact ih0 _ _ _ _ _ _ _
   |exact impl_field_images.mono _ _ _ _ _
   |exact LeO.none _
   |refine LeO.ite ?_ ?_
   |refine LeO.bind ?_ (fun _=>?_)
set_option maxHeartbeats 8000000 in
set_option maxRecDepth 100000 in
theorem impl_field_trace.calls (k:Nat) (g:Nat) (s0_0:Int) (s0_1:Int) (s0_2:List (List Int)) (A1:Option Addr) (c1:Nat) (l1:List Int) (r1:Int) (r2:Int) (r3:Int) (w0 w:World) (hI:IsS52 w0 w g s0_0 s0_1 s0_2) (hB:Below w0.heap.size w0 w) (hr1:Kd.C (Kd.int .i64) w A1 l1.length l1) (hc1:l1.length≤c1) (hf1:∀ad,A1=some ad→0<l1.length→ad.block≠g) (h:impl_field_trace.f k s0_0 s0_1 s0_2 l1=some (r1,r2,r3)):
  Calls Try.prog 52 #[.pointer (some ⟨g,0,none⟩),.slice A1 l1.length c1] w fun e w'=>e=.returned (.int .i64 r1)∧IsS52 w0 w' g r2 r3 s0_2∧Below w0.heap.size w0 w'∧KeepBut w w' g none:=by
 have HR1:=qAm hr1;have HC1:=qAm hc1;clear hr1 hc1;have HI0:=qAm hI;have HK:=qAm (KeepBut.refl w g none);have HL:=qAm hB.size;clear hI;have HW0:=qAm hB.size;have HB:=qAm hB;clear hB;have H:((impl_field_images.f k s0_0 s0_1 s0_2 l1).bind fun bt393=>(impl_field_trace.l0 k 0 bt393.1 (bt393.1.length:Int) 0 bt393.2.1 bt393.2.2 s0_2))=some (r1,r2,r3):=h;clear h;replace H:=qOb H;obtain⟨⟨t393,t396,t397⟩,A30,H⟩:=H;replace H:(impl_field_trace.l0 k 0 t393 (t393.length:Int) 0 t396 t397 s0_2)=some (r1,r2,r3):=H;have A3:=qAm A30;clear A30;have H':=qAm H;clear H;go_enter Try.func52,Try.ntmps52;go_wp2_with (first|((with_reducible refine gate_callee (f:=77) rfl ?_);refine goesL_ (some 10) rfl rfl Try.func77 (by kernel_rfl) rfl #[.pointer (some ⟨g,0,none⟩),.slice A1 l1.length c1] rfl qB50 ?_;(with_reducible refine(impl_field_images.calls k g s0_0 s0_1 s0_2 _ _ l1 t393 t396 t397 w0 _ ?side1 ?side2 ?side3 ?side4 ?side5 A3.1).mono ?_);(case side1=>repeat(first|(with_reducible first|exact HI0.1|apply IsS52.alloc|apply IsS52.drewN|apply IsS52.drew|apply IsS52.set_0|apply IsS52.set_1)|exact HI0.1));(case side2=>repeat(first|(with_reducible first|exact HB.1|apply below_alloc|apply pw_below_drewN|apply below_drew1|refine below_set ?_ (IsS52.ge HI0.1))|exact HB.1));(case side3=>exact Kd.C_keep 0 HR1.1 qB45 hf1);(case side4=>exact HC1.1);(case side5=>exact hf1);rintro e w4 ⟨v394,rfl,ho0,hi,hb,hk⟩;refine⟨_,rfl,?_⟩;have n0_:=qAm (Kd.S_lower ho0 (keep_size (w:=w) (g:=g) (row:=none) qB45));have n1_:=qAm (KeepBut.trans qB45 hk (.inl rfl));have n2_:=qAm (hb);have n3_:=qAm (hi);clear HK;clear HB;clear HI0;have HO395:=n0_;have HK:=n1_;have HB:=n2_;have HI0:=n3_;clear n0_ n1_ n2_ n3_;(try clear hb);(try clear hb2);(try clear hk);(try clear hi);(try clear ho0);obtain⟨Ao5,co5,eo5⟩:=Kd.S_slice HO395.1;subst eo5));try simp only [Act.put,qSa,qSc,qSb]
 go_loopg [5,12] k (fun kq v5 v12 w'=>∃(x5_1:Int) (x12_1:Int),v5=.int .i64 x5_1∧v12=.int .i64 x12_1∧Aside0 (impl_field_trace.l0 kq x5_1 t393 (t393.length:Int) x12_1 t396 t397 s0_2=some (r1,r2,r3))∧Aside0 (kq≤k)∧Aside0 (Kd.S (Kd.slice 2 (Kd.int .i64)) 22 w' w.heap.size (fun _=>True) (.slice Ao5 t393.length co5) t393)∧Aside0 (IsS52 w0 w' g t396 t397 s0_2)∧Aside0 (KeepBut w w' g none)∧Aside0 (Below w0.heap.size w0 w'))
 case atStart=>exact⟨(0),(0),qB107,qB107,H',⟨Nat.le_refl _⟩,⟨by (with_reducible repeat(first|apply Kd.S_alloc|apply Kd.S_drewN|apply Kd.S_drew));exact HO395.1⟩,⟨by repeat(first|(with_reducible first|exact HI0.1|apply IsS52.alloc|apply IsS52.drewN|apply IsS52.drew|apply IsS52.set_0|apply IsS52.set_1)|exact HI0.1)⟩,⟨by repeat(first|(with_reducible first|exact HK.1|apply KeepBut.set_|apply keep_drewN|apply keep_drew|apply keep_alloc)|exact HK.1)⟩,⟨by repeat(first|(with_reducible first|exact HB.1|apply below_alloc|apply pw_below_drewN|apply below_drew1|refine below_set ?_ (IsS52.ge HI0.1))|exact HB.1)⟩⟩
 case round=>
  clear H';try clear c1
  try clear p2
  try clear c5
  obtain⟨x5_1,x12_1,rfl,rfl,HA,HK1,HO_10,HI0,HK,HB⟩:=hrel;cases gk with
  |zero=>exact absurd HA.1 (by simp [impl_field_trace.l0])
  |succ k1=>
   have H:=HA.1;clear HA;simp only [impl_field_trace.l0] at H
   by_cases c6:x12_1<(t393.length:Int)
   ·rw [if_pos c6] at H;have c6b0:decide (x12_1<(t393.length:Int))=true:=decide_eq_true c6;clear c6
    by_cases c7:0≤x12_1
    ·rw [if_pos c7] at H;have c7b0:decide (0≤x12_1)=true:=decide_eq_true c7;clear c7
     by_cases c8:x12_1<(t393.length:Int)
     ·rw [if_pos c8] at H;have c8b0:decide (x12_1<(t393.length:Int))=true:=decide_eq_true c8;clear c8
      by_cases c9:0<((rd_L1 t393 x12_1).length:Int)
      ·rw [if_pos c9] at H;have c9b0:decide (0<((rd_L1 t393 x12_1).length:Int))=true:=decide_eq_true c9;have c9b1:decide (0<(rd_L1 t393 x12_1).length)=true:=decide_eq_true (by omega);clear c9;have H':=qAm H;clear H;have p398:0≤(x12_1:Int):=of_decide_eq_true qB106;have q398:x12_1<(t393.length:Int):=of_decide_eq_true qB106;obtain⟨ad398,A398_0,c398_0,e398,hx398_0,hl398_0,hi398_0⟩:=at_L1 (Kd.S_reads' HO_10.1).2.2 x12_1 p398 q398;cases e398
       obtain⟨ce398,hce398,hMe398,hcc398⟩:=Kd.S_get HO_10.1 [] x12_1 p398 (by first|exact q398|exact of_decide_eq_true qB106|(have e_:=(Kd.S_reads' HO_10.1).1;omega));obtain⟨ve398_0,rfl,ge398_0⟩:=hMe398;have hv398_0:=hcc398 0 _ rfl;rw [Nat.add_zero,show((Kd.slice 2 (Kd.int .i64))).sz=1 from rfl,Nat.mul_one] at hv398_0;replace hv398_0:=Option.some.inj (hv398_0.symm.trans hx398_0);rw [hv398_0] at ge398_0;have HL398_0:=qAm (show Kd.R (Kd.int .i64) 2 _ _ _ _ (rd_L1 t393 x12_1) from ge398_0);clear hv398_0 ge398_0 hcc398 hce398;have HR398_0:=qAm hi398_0;have HC398_0:=qAm hl398_0;clear hi398_0 hl398_0;replace p398:=eq_true p398;replace q398:=eq_true q398;have p399:0≤(0:Int):=(by omega)
       have q399:0<((rd_L1 t393 x12_1).length:Int):=of_decide_eq_true qB106;obtain⟨ad399,e399,hx399_0⟩:=Kd.at_int (by repeat(first|(with_reducible exact HR398_0.1)|(with_reducible refine Kd.C_alloc ?_ _)|(with_reducible refine Kd.C_drewN ?_ _)|(with_reducible refine Kd.C_drew ?_)|exact HR398_0.1)) 0 p399 q399;cases e399
       have qi399:(0<(rd_L1 t393 x12_1).length)=True:=eq_true (by omega)
       (try rw [show((0:Int)).toNat=0 from rfl] at hx399_0)
       (try rw [Addr.add_zero'] at hx399_0)
       replace p399:=eq_true p399;replace q399:=eq_true q399;go_wp2
       (first|go_roundg k1|((try simp only [add_plain] at *);go_roundg k1))
       case measure=>have:=HK1.1;omega
       case rel=>exact⟨(wrap64 (x5_1+(rd (rd_L1 t393 x12_1) 0))),(wrap64 (x12_1+1)),qB107,qB107,H',⟨by have:=HK1.1;omega⟩,⟨by (with_reducible repeat(first|apply Kd.S_alloc|apply Kd.S_drewN|apply Kd.S_drew));exact HO_10.1⟩,⟨by repeat(first|(with_reducible first|exact HI0.1|apply IsS52.alloc|apply IsS52.drewN|apply IsS52.drew|apply IsS52.set_0|apply IsS52.set_1)|exact HI0.1)⟩,⟨by repeat(first|(with_reducible first|exact HK.1|apply KeepBut.set_|apply keep_drewN|apply keep_drew|apply keep_alloc)|exact HK.1)⟩,⟨by repeat(first|(with_reducible first|exact HB.1|apply below_alloc|apply pw_below_drewN|apply below_drew1|refine below_set ?_ (IsS52.ge HI0.1))|exact HB.1)⟩⟩
      ·rw [if_neg c9] at H;exact absurd H (by simp)
     ·rw [if_neg c8] at H;exact absurd H (by simp)
    ·rw [if_neg c7] at H;exact absurd H (by simp)
   ·rw [if_neg c6] at H;have c6b0:decide (x12_1<(t393.length:Int))=false:=decide_eq_false c6;clear c6;simp only [Option.some.injEq,Prod.mk.injEq] at H;obtain⟨rfl,rfl,rfl⟩:=H;go_wp2;go_ret;exact⟨by first|rfl|(simp [errW_none,errW_some] <;> rfl)|(simp [*,errW_none,errW_some] <;> rfl),by repeat(first|(with_reducible first|exact HI0.1|apply IsS52.alloc|apply IsS52.drewN|apply IsS52.drew|apply IsS52.set_0|apply IsS52.set_1)|exact HI0.1),by repeat(first|(with_reducible first|exact HB.1|apply below_alloc|apply pw_below_drewN|apply below_drew1|refine below_set ?_ (IsS52.ge HI0.1))|exact HB.1),by repeat(first|(with_reducible first|exact HK.1|apply KeepBut.set_|apply keep_drewN|apply keep_drew|apply keep_alloc)|exact HK.1)⟩

end Go.Proofs.Ythljmbobccaalaa.PFnExactSizeOf
