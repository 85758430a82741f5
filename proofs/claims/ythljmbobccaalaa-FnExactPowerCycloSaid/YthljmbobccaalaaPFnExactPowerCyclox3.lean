/- The functions that the law reaches, as plain functions, each with the proof that the program comes to it; no condition. Written by a program of this session (wip/mp.py) over the printing of the kit; what is marked HAND is told by hand. -/
import Derived.Test.YthljmbobccaalaaPFnExactPowerCyclox0
import Derived.Test.YthljmbobccaalaaPFnExactPowerCyclox2
namespace Go.Proofs.Ythljmbobccaalaa.PFnExactPowerCyclo
open Go.RowKit Go.Proofs.YthljmbobccaalaaW.PrintWords Go.Proofs.YthljmbobccaalaaW.PrintLast Go.Proofs.YthljmbobccaalaaW.PrintMore
attribute [local go_sem] max2_int min2_int max_two min_two max_three min_three max_four min_four   -- for this text's walks alone
set_option linter.unusedVariables false
set_option linter.unusedSimpArgs false

/-! ### spec_l01Cyclotomic: function 98 -/
mutual
def spec_l01Cyclotomic.l0:Nat→Int→List Int→Int→Option (List Int)
 |0,_,_,_=>none
 |k+1,x0,x3,x4=>if x4<x0 then (if x4=0 then (none) else (if (Int.tmod x0 x4)=0 then ((spec_l01Cyclotomic.f k x4).bind fun t155=>((spec_l01Quotient.f k x3 t155).bind fun t158=>(spec_l01Cyclotomic.l0 k x0 t158 (wrap64 (x4+1))))) else (spec_l01Cyclotomic.l0 k x0 x3 (wrap64 (x4+1))))) else (some x3)
def spec_l01Cyclotomic.f:Nat→Int→Option (List Int)
 |0,_=>none
 |k+1,a0=>if 0≤(wrap64 (a0+1)) then (if (wrap64 (a0+1):Int).toNat≤35184372088832 then ((some (List.replicate (wrap64 (a0+1):Int).toNat 0:List Int)).bind fun y150=>(if 0<(y150.length:Int) then (if 0≤a0 then (if a0<(y150.length:Int) then (spec_l01Cyclotomic.l0 k a0 ((y150.set (0:Int).toNat (-1)).set (a0:Int).toNat 1) 1) else (none)) else (none)) else (none))) else (none)) else (none)
end
theorem spec_l01Cyclotomic.mono_l:∀k,(∀y0,LeO (spec_l01Cyclotomic.f k y0) (spec_l01Cyclotomic.f (k+1) y0))∧(∀y0 y1 y2,LeO (spec_l01Cyclotomic.l0 k y0 y1 y2) (spec_l01Cyclotomic.l0 (k+1) y0 y1 y2))
 |0=>⟨fun _ r h=>by simp [spec_l01Cyclotomic.f] at h,fun _ _ _ r h=>by simp [spec_l01Cyclotomic.l0] at h⟩
 |k+1=>by
  obtain⟨ih0,ih1⟩:=spec_l01Cyclotomic.mono_l k;refine⟨?_,?_⟩
  ·intro y0;unfold spec_l01Cyclotomic.f;repeat' first
   |(with_reducible exact ih0 _)
   |(with_reducible exact ih1 _ _ _)
   |(with_reducible exact spec_l01Quotient.mono _ _ _)
   |(with_reducible exact LeO.refl _)
   |(with_reducible exact LeO.none _)
   |(with_reducible refine LeO.ite ?_ ?_)
   |(with_reducible refine LeO.bind ?_ (fun _=>?_))
   |exact ih0 _
   |exact ih1 _ _ _
   |exact spec_l01Quotient.mono _ _ _
   |exact LeO.none _
   |refine LeO.ite ?_ ?_
   |refine LeO.bind ?_ (fun _=>?_)
  ·intro y0 y1 y2;unfold spec_l01Cyclotomic.l0;repeat' first
   |(with_reducible exact ih0 _)
   |(with_reducible exact ih1 _ _ _)
   |(with_reducible exact spec_l01Quotient.mono _ _ _)
   |(with_reducible exact LeO.refl _)
   |(with_reducible exact LeO.none _)
   |(with_reducible refine LeO.ite ?_ ?_)
   |(with_reducible refine LeO.bind ?_ (fun _=>?_))
   |exact ih0 _
   |exact ih1 _ _ _
   |exact spec_l01Quotient.mono _ _ _
   |exact LeO.none _
   |refine LeO.ite ?_ ?_
   |refine LeO.bind ?_ (fun _=>?_)
theorem spec_l01Cyclotomic.mono:∀a0 k,LeO (spec_l01Cyclotomic.f k a0) (spec_l01Cyclotomic.f (k+1) a0):=by
 intro a0 k;obtain⟨ih0,ih1⟩:=spec_l01Cyclotomic.mono_l k;exact ih0 a0
set_option maxHeartbeats 8000000 in
set_option maxRecDepth 100000 in
theorem spec_l01Cyclotomic.calls (k:Nat):∀(a0:Int) (r:List Int) (w:World) (h:spec_l01Cyclotomic.f k a0=some r),
  Calls Try.prog 98 #[.int .i64 a0] w fun e w'=>∃v0_:Value,e=.returned (v0_)∧Kd.R (Kd.int .i64) 2 w' w.heap.size (fun _=>True) v0_ r∧Below w.heap.size w w':=by
 induction k using Nat.strongRecOn with
 |_ k ih=>
 intro a0 r w h;cases k with
 |zero=>exact absurd h (by simp [spec_l01Cyclotomic.f])
 |succ k=>
 simp only [spec_l01Cyclotomic.f] at h;have HB:=qAm (Below.refl w.heap.size w);have H:(if 0≤(wrap64 (a0+1)) then (if (wrap64 (a0+1):Int).toNat≤35184372088832 then ((some (List.replicate (wrap64 (a0+1):Int).toNat 0:List Int)).bind fun y150=>(if 0<(y150.length:Int) then (if 0≤a0 then (if a0<(y150.length:Int) then (spec_l01Cyclotomic.l0 k a0 ((y150.set (0:Int).toNat (-1)).set (a0:Int).toNat 1) 1) else (none)) else (none)) else (none))) else (none)) else (none))=some r:=h;clear h;obtain⟨ji2,hji2⟩:∃j_:Int,(wrap64 (a0+1))=j_:=⟨_,rfl⟩
 replace H:(if 0≤(ji2) then (if (ji2:Int).toNat≤35184372088832 then ((some (List.replicate (ji2:Int).toNat 0:List Int)).bind fun y150=>(if 0<(y150.length:Int) then (if 0≤a0 then (if a0<(y150.length:Int) then (spec_l01Cyclotomic.l0 k a0 ((y150.set (0:Int).toNat (-1)).set (a0:Int).toNat 1) 1) else (none)) else (none)) else (none))) else (none)) else (none))=some r:=by first|(rw [hji2] at H;exact H)|(simp only [hji2] at H ⊢;exact H)
 have hji2w:(IntKind.i64.wrap (a0+1))=ji2:=(i64_w _).trans hji2
 by_cases c3:0≤(ji2)
 ·rw [if_pos c3] at H;have c3b0:=eq_true c3;have c3b1:decide (0≤(ji2))=true:=decide_eq_true c3;clear c3
  by_cases c4:(ji2:Int).toNat≤35184372088832
  ·rw [if_pos c4] at H;have c4b0:=eq_true c4;have c4b1:decide ((ji2:Int).toNat≤35184372088832)=true:=decide_eq_true c4;clear c4;obtain⟨y150,hy150⟩:∃y_:List Int,y_=(List.replicate (ji2:Int).toNat 0):=⟨_,rfl⟩
   replace H:(if 0<(y150.length:Int) then (if 0≤a0 then (if a0<(y150.length:Int) then (spec_l01Cyclotomic.l0 k a0 ((y150.set (0:Int).toNat (-1)).set (a0:Int).toNat 1) 1) else (none)) else (none)) else (none))=some r:=by first|(rw [hy150];with_reducible exact H)|(have H2_:=(Option.bind_some _ _).symm.trans H;rw [hy150];with_reducible exact H2_)|(have H2_:=(Option.bind_some _ _).symm.trans H;with_reducible exact H2_)|with_reducible exact H|(rw [hy150];exact H)|exact H
   have Ny150:=qAm hy150;clear hy150
   by_cases c5:0<(y150.length:Int)
   ·rw [if_pos c5] at H;have c5b0:decide (0<(y150.length:Int))=true:=decide_eq_true c5;have c5b1:decide (0<y150.length)=true:=decide_eq_true (by omega);clear c5;obtain⟨y153,hy153⟩:∃y_:List Int,y_=(y150.set (0:Int).toNat (-1)):=⟨_,rfl⟩
    replace H:(if 0≤a0 then (if a0<(y150.length:Int) then (spec_l01Cyclotomic.l0 k a0 (y153.set (a0:Int).toNat 1) 1) else (none)) else (none))=some r:=by first|(rw [hy153];with_reducible exact H)|(have H2_:=(Option.bind_some _ _).symm.trans H;rw [hy153];with_reducible exact H2_)|(have H2_:=(Option.bind_some _ _).symm.trans H;with_reducible exact H2_)|with_reducible exact H|(rw [hy153];exact H)|exact H
    have Ny153:=qAm hy153;clear hy153
    by_cases c7:0≤a0
    ·rw [if_pos c7] at H;have c7b0:decide (0≤a0)=true:=decide_eq_true c7;clear c7
     by_cases c8:a0<(y150.length:Int)
     ·rw [if_pos c8] at H;have c8b0:decide (a0<(y150.length:Int))=true:=decide_eq_true c8;clear c8;obtain⟨y154,hy154⟩:∃y_:List Int,y_=(y153.set (a0:Int).toNat 1):=⟨_,rfl⟩
      replace H:(spec_l01Cyclotomic.l0 k a0 y154 1)=some r:=by first|(rw [hy154];with_reducible exact H)|(have H2_:=(Option.bind_some _ _).symm.trans H;rw [hy154];with_reducible exact H2_)|(have H2_:=(Option.bind_some _ _).symm.trans H;with_reducible exact H2_)|with_reducible exact H|(rw [hy154];exact H)|exact H
      have Ny154:=qAm hy154;clear hy154;have H':=qAm H;clear H;go_enter Try.func98,Try.ntmps98;go_wp2_with (first|((with_reducible refine gate_dst (N:=7) rfl ?_);refine Kd.R_make (Kd.int .i64) _ 2 rfl (N:=7) rfl 22 _ _ rfl ji2 rfl rfl Try.underlying22 (.int .i64 0) 8 info2 rfl (by decide) (by omega) 0 (ok:=fun _=>True) (okp:=fun _=>True) rfl (fun _ hk=>hk) trivial (of_decide_eq_true qB118) (Nat.le_trans (Nat.mul_le_mul_right _ (of_decide_eq_true qB118:ji2.toNat≤35184372088832)) (by omega)) (Below.refl _ _) (Nat.le_refl _) ?_;intro v151 w10 ho11 hb hg_ hnew_;clear hg_ hnew_;(first|rw [← Ny150.1] at ho11|(simp only [Int.reduceToNat] at ho11;rw [← Ny150.1] at ho11));have n0_:=qAm (Kd.R_lower ho11 (below_size qB61));have n1_:=qAm (below_step qB61 hb);clear HB;have HO152:=n0_;have HB:=n1_;clear n0_ n1_;clear hb ho11;have p6:0≤(0:Int):=(by omega);have q6:(0:Int)<((y150.length:Int):Int):=of_decide_eq_true qB118;have qi6:(0<y150.length)=True:=eq_true (by omega);obtain⟨go6,co6,eo6,gb6,gl6,cl6,HG6⟩:=Kd.R_form HO152.1 (by omega);(first|cases eo6|(injection eo6 with ea_ en_ ec_;(first|subst ea_|(injection ea_ with ea_;subst ea_));subst ec_;clear en_));have GB6:=qAm gb6;have GG6:=qAm HG6;clear gb6 gl6 HG6;obtain⟨hx6_0,hf6_0⟩:=Kd.R_celln 0 HO152.1 (0:Int) p6 q6;(try rw [show((0:Int)).toNat=0 from rfl] at hx6_0);(try simp only [Nat.reduceMul,Nat.zero_mul,Nat.zero_add,Nat.reduceAdd] at hx6_0);(try rw [show((0:Int)).toNat=0 from rfl] at hf6_0);(try simp only [Nat.reduceMul,Nat.zero_mul,Nat.zero_add,Nat.reduceAdd] at hf6_0);replace p6:=eq_true p6;replace q6:=eq_true q6;obtain⟨hy12_,hz12_⟩:=Kd.R_celln 0 HO152.1 (0:Int) (by omega) (of_decide_eq_true qB118);(try simp only [Int.reduceToNat,Int.toNat_zero,Int.toNat_ofNat,Nat.reduceMul,Nat.zero_mul,Nat.zero_add] at hy12_ hz12_);(try rw [show((0:Int)).toNat=0 from rfl] at hy12_);(try rw [show((0:Int)).toNat=0 from rfl] at hz12_);have HP12:=Kd.R_putg HO152.1 (0:Int) (-1))|((with_reducible refine gate_store (t:=2) (p:=9) rfl ?_);refine store_event (t:=2) (p:=9) (v:=?vo_w13) (w1:=(w10.setCell ⟨go6,(0:Int).toNat,none⟩ (.int .i64 (-1)))) ?hg ?ho ?hn ?hr ?_;(case ho=>rfl);(case hg=>rfl);(case hn=>rfl);(case hr=>first|(go_simp;done)|(go_simp;rfl));intro w13 hw;have hg:w10.grownBy w13 (some go6):=(by rw [hw];exact HP12.2);have hp_:Kd.R (Kd.int .i64) 2 w13 w.heap.size (fun _=>True) (.slice (some ⟨go6,0,none⟩) y150.length co6) y153:=(by rw [hw,Ny153.1];exact HP12.1);clear HP12;have n0_:=qAm (hp_);have n1_:=qAm ((by rw [hw];exact below_set (HB.1) GB6.1:Below w.heap.size w w13));clear HO152;clear HB;have HO152:=n0_;have HB:=n1_;clear n0_ n1_;clear hg hw hp_;have p9:0≤(a0:Int):=of_decide_eq_true qB118;have q9:(a0:Int)<((y150.length:Int):Int):=of_decide_eq_true qB118;obtain⟨hx9_0,hf9_0⟩:=Kd.R_celln 0 HO152.1 (a0:Int) p9 q9;replace p9:=eq_true p9;replace q9:=eq_true q9;obtain⟨hy14_,hz14_⟩:=Kd.R_celln 0 HO152.1 (a0:Int) (of_decide_eq_true qB118) (of_decide_eq_true qB118);have HP14:=Kd.R_putg HO152.1 (a0:Int) 1)|((with_reducible refine gate_store (t:=2) (p:=12) rfl ?_);refine store_event (t:=2) (p:=12) (v:=?vo_w15) (w1:=(w13.setCell ⟨go6,(a0:Int).toNat,none⟩ (.int .i64 1))) ?hg ?ho ?hn ?hr ?_;(case ho=>rfl);(case hg=>rfl);(case hn=>rfl);(case hr=>first|(go_simp;done)|(go_simp;rfl));intro w15 hw;have hg:w13.grownBy w15 (some go6):=(by rw [hw];exact HP14.2);have hp_:Kd.R (Kd.int .i64) 2 w15 w.heap.size (fun _=>True) (.slice (some ⟨go6,0,none⟩) y150.length co6) y154:=(by rw [hw,Ny154.1];exact HP14.1);clear HP14;have n0_:=qAm (hp_);have n1_:=qAm ((by rw [hw];exact below_set (HB.1) GB6.1:Below w.heap.size w w15));clear HO152;clear HB;have HO152:=n0_;have HB:=n1_;clear n0_ n1_;clear hg hw hp_));try simp only [Act.put,qSa,qSc,qSb]
      go_loopg [3,4] k (fun kq v3 v4 w'=>∃(x3_1:List Int) (x4_1:Int),v4=.int .i64 x4_1∧Aside0 (spec_l01Cyclotomic.l0 kq a0 x3_1 x4_1=some r)∧Aside0 (kq≤k)∧Aside0 (Kd.R (Kd.int .i64) 2 w' w.heap.size (fun _=>True) v3 x3_1)∧Aside0 (Below w.heap.size w w'))
      case atStart=>exact⟨(y154),(1),qB119,H',⟨Nat.le_refl _⟩,⟨by (with_reducible repeat(first|apply Kd.R_alloc|apply Kd.R_drewN|apply Kd.R_drew));exact HO152.1⟩,⟨by repeat(first|(with_reducible first|exact HB.1|apply below_alloc|apply pw_below_drewN|apply below_drew1)|exact HB.1)⟩⟩
      case round=>
       clear H';try clear p2
       try clear c3
       try clear c3b0
       try clear c3b1
       try clear c4
       try clear c4b0
       try clear c4b1
       try clear c5
       try clear c5b0
       try clear c5b1
       try clear p6
       try clear q6
       try clear hx6
       try clear qi6
       try clear hf6
       try clear c7
       try clear c7b0
       try clear c8
       try clear c8b0
       try clear c9
       try clear p9
       try clear q9
       try clear hx9
       try clear hf9
       try clear hx6_0
       try clear hx9_0
       try clear p6
       try clear p9
       try clear q6
       try clear q9
       obtain⟨x3_1,x4_1,rfl,HA,HK1,HO_3,HB⟩:=hrel;cases gk with
       |zero=>exact absurd HA.1 (by simp [spec_l01Cyclotomic.l0])
       |succ k1=>
        have H:=HA.1;clear HA;simp only [spec_l01Cyclotomic.l0] at H
        by_cases c16:x4_1<a0
        ·rw [if_pos c16] at H;have c16b0:decide (x4_1<a0)=true:=decide_eq_true c16;clear c16
         by_cases c17:x4_1=0
         ·rw [if_pos c17] at H;exact absurd H (by simp)
         ·rw [if_neg c17] at H;have c17b0:(x4_1==0)=false:=beq_eq_false_iff_ne.mpr c17;have c17b1:(x4_1 !=0)=true:=bne_iff_ne.mpr c17
          by_cases c18:(Int.tmod a0 x4_1)=0
          ·rw [if_pos c18] at H;have c18b0:((Int.tmod a0 x4_1)==0)=true:=beq_iff_eq.mpr c18;have c18b1:((Int.tmod a0 x4_1) !=0)=false:=bne_eq_false_iff_eq.mpr c18;clear c18;replace H:=qOb H;obtain⟨t155,A190,H⟩:=H;replace H:((spec_l01Quotient.f k1 x3_1 t155).bind fun t158=>(spec_l01Cyclotomic.l0 k1 a0 t158 (wrap64 (x4_1+1))))=some r:=H;have A19:=qAm A190;clear A190;replace H:=qOb H;obtain⟨t158,A200,H⟩:=H;replace H:(spec_l01Cyclotomic.l0 k1 a0 t158 (wrap64 (x4_1+1)))=some r:=H;have A20:=qAm A200;clear A200;have H':=qAm H;clear H;go_wp2_with (first|((with_reducible refine gate_callee (f:=98) rfl ?_);refine goesL_ (some 24) rfl rfl Try.func98 (by kernel_rfl) rfl #[.int .i64 x4_1] rfl qB60 ?_;(with_reducible refine(ih k1 (by have:=HK1.1;omega) x4_1 t155 _ A19.1).mono ?_);rintro e w21 ⟨v156,rfl,ho0,hb⟩;refine⟨_,rfl,?_⟩;have n0_:=qAm (Kd.R_elder' qB111 (Kd.R_base ho0) hb);have n1_:=qAm (Kd.R_lower (Kd.R_new' ho0 (Kd.R_lt qB111)) (below_size qB61));have n2_:=qAm (below_step qB61 hb);clear HO_3;clear HB;have HO_3:=n0_;have HO157:=n1_;have HB:=n2_;clear n0_ n1_ n2_;(try clear hb);(try clear hb2);(try clear hk);(try clear hi);(try clear ho0);obtain⟨Ao22,co22,eo22⟩:=Kd.R_slice HO_3.1;subst eo22;obtain⟨Ao23,co23,eo23⟩:=Kd.R_slice HO157.1;subst eo23)|((with_reducible refine gate_callee (f:=103) rfl ?_);refine goesL_ (some 25) rfl rfl Try.func103 (by kernel_rfl) rfl #[.slice Ao22 x3_1.length co22,.slice Ao23 t155.length co23] rfl qB60 ?_;(with_reducible refine(spec_l01Quotient.calls k1 _ _ x3_1 _ _ t155 t158 _ ?side1 ?side2 ?side3 ?side4 A20.1).mono ?_);(case side1=>repeat(first|exact(Kd.R_reads' HO_3.1).2.2|(with_reducible refine Kd.C_alloc ?_ _)|(with_reducible refine Kd.C_drewN ?_ _)|(with_reducible refine Kd.C_drew ?_)));(case side2=>exact(Kd.R_reads' HO_3.1).2.1);(case side3=>repeat(first|exact(Kd.R_reads' HO157.1).2.2|(with_reducible refine Kd.C_alloc ?_ _)|(with_reducible refine Kd.C_drewN ?_ _)|(with_reducible refine Kd.C_drew ?_)));(case side4=>exact(Kd.R_reads' HO157.1).2.1);rintro e w24 ⟨v159,rfl,ho0,hb⟩;refine⟨_,rfl,?_⟩;have n0_:=qAm (Kd.R_elder' qB111 (Kd.R_base ho0) hb);have n1_:=qAm (Kd.R_elder' qB96 (Kd.R_base ho0) hb);have n2_:=qAm (Kd.R_lower (Kd.R_new' (Kd.R_new' ho0 (Kd.R_lt qB111)) (Kd.R_lt qB96)) (below_size qB61));have n3_:=qAm (below_step qB61 hb);clear HO_3;clear HO157;clear HB;have HO_3:=n0_;have HO157:=n1_;have HO160:=n2_;have HB:=n3_;clear n0_ n1_ n2_ n3_;(try clear hb);(try clear hb2);(try clear hk);(try clear hi);(try clear ho0)))
           (first|go_roundg k1|((try simp only [add_plain] at *);go_roundg k1))
           case measure=>have:=HK1.1;omega
           case rel=>exact⟨(t158),(wrap64 (x4_1+1)),qB119,H',⟨by have:=HK1.1;omega⟩,⟨by (with_reducible repeat(first|apply Kd.R_alloc|apply Kd.R_drewN|apply Kd.R_drew));exact Kd.R_mono HO160.1 (fun _ hk=>trivial)⟩,⟨by repeat(first|(with_reducible first|exact HB.1|apply below_alloc|apply pw_below_drewN|apply below_drew1)|exact HB.1)⟩⟩
          ·rw [if_neg c18] at H;have c18b0:((Int.tmod a0 x4_1)==0)=false:=beq_eq_false_iff_ne.mpr c18;have c18b1:((Int.tmod a0 x4_1) !=0)=true:=bne_iff_ne.mpr c18;have H':=qAm H;clear H;go_wp2
           (first|go_roundg k1|((try simp only [add_plain] at *);go_roundg k1))
           case measure=>have:=HK1.1;omega
           case rel=>exact⟨(x3_1),(wrap64 (x4_1+1)),qB119,H',⟨by have:=HK1.1;omega⟩,⟨by (with_reducible repeat(first|apply Kd.R_alloc|apply Kd.R_drewN|apply Kd.R_drew));exact HO_3.1⟩,⟨by repeat(first|(with_reducible first|exact HB.1|apply below_alloc|apply pw_below_drewN|apply below_drew1)|exact HB.1)⟩⟩
        ·rw [if_neg c16] at H;have c16b0:decide (x4_1<a0)=false:=decide_eq_false c16;clear c16;obtain rfl:=Option.some.inj H;go_wp2;go_ret;exact⟨_,by first|rfl|(simp [errW_none,errW_some] <;> rfl)|(simp only [← hji2];first|rfl|(simp [errW_none,errW_some] <;> rfl))|(simp [*,errW_none,errW_some] <;> rfl),by (with_reducible repeat(first|apply Kd.R_alloc|apply Kd.R_drewN|apply Kd.R_drew));exact HO_3.1,by repeat(first|(with_reducible first|exact HB.1|apply below_alloc|apply pw_below_drewN|apply below_drew1)|exact HB.1)⟩
     ·rw [if_neg c8] at H;exact absurd H (by simp)
    ·rw [if_neg c7] at H;exact absurd H (by simp)
   ·rw [if_neg c5] at H;exact absurd H (by simp)
  ·rw [if_neg c4] at H;exact absurd H (by simp)
 ·rw [if_neg c3] at H;exact absurd H (by simp)

end Go.Proofs.Ythljmbobccaalaa.PFnExactPowerCyclo
