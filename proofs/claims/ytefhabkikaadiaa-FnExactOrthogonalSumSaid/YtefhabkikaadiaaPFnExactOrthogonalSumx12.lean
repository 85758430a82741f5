/- The functions that the law reaches, as plain functions, each with the proof that the program comes to it; no condition. Written by a program of this session (wip/mp.py) over the printing of the kit; what is marked HAND is told by hand. -/
import Derived.Test.YtefhabkikaadiaaPFnExactOrthogonalSumx0
import Derived.Test.YtefhabkikaadiaaPFnExactOrthogonalSumx11
namespace Go.Proofs.Ytefhabkikaadiaa.PFnExactOrthogonalSum
open Go.RowKit Go.Proofs.YtefhabkikaadiaaW.PrintWords Go.Proofs.YtefhabkikaadiaaW.PrintLast Go.Proofs.YtefhabkikaadiaaW.PrintMore
attribute [local go_sem] max2_int min2_int max_two min_two max_three min_three max_four min_four   -- for this text's walks alone
set_option linter.unusedVariables false
set_option linter.unusedSimpArgs false

/-! ### impl_cyclotomic: function 108 -/
mutual
def impl_cyclotomic.l0:Nat→Int→List Int→Int→Option (List Int)
 |0,_,_,_=>none
 |k+1,x0,x3,x4=>if x4<x0 then (if x4=0 then (none) else (if (Int.tmod x0 x4)=0 then ((impl_cyclotomic.f k x4).bind fun t364=>((impl_quotient.f k x3 t364).bind fun t367=>(impl_cyclotomic.l0 k x0 t367 (wrap64 (x4+1))))) else (impl_cyclotomic.l0 k x0 x3 (wrap64 (x4+1))))) else (some x3)
def impl_cyclotomic.f:Nat→Int→Option (List Int)
 |0,_=>none
 |k+1,a0=>if 0≤(wrap64 (a0+1)) then (if (wrap64 (a0+1):Int).toNat≤35184372088832 then ((some (List.replicate (wrap64 (a0+1):Int).toNat 0:List Int)).bind fun y359=>(if 0<(y359.length:Int) then (if 0≤a0 then (if a0<(y359.length:Int) then (impl_cyclotomic.l0 k a0 ((y359.set (0:Int).toNat (-1)).set (a0:Int).toNat 1) 1) else (none)) else (none)) else (none))) else (none)) else (none)
end
theorem impl_cyclotomic.mono_l:∀k,(∀y0,LeO (impl_cyclotomic.f k y0) (impl_cyclotomic.f (k+1) y0))∧(∀y0 y1 y2,LeO (impl_cyclotomic.l0 k y0 y1 y2) (impl_cyclotomic.l0 (k+1) y0 y1 y2))
 |0=>⟨fun _ r h=>by simp [impl_cyclotomic.f] at h,fun _ _ _ r h=>by simp [impl_cyclotomic.l0] at h⟩
 |k+1=>by
  obtain⟨ih0,ih1⟩:=impl_cyclotomic.mono_l k;refine⟨?_,?_⟩
  ·intro y0;unfold impl_cyclotomic.f;repeat' first
   |(with_reducible exact ih0 _)
   |(with_reducible exact ih1 _ _ _)
   |(with_reducible exact impl_quotient.mono _ _ _)
   |(with_reducible exact LeO.refl _)
   |(with_reducible exact LeO.none _)
   |(with_reducible refine LeO.ite ?_ ?_)
   |(with_reducible refine LeO.bind ?_ (fun _=>?_))
   |exact ih0 _
   |exact ih1 _ _ _
   |exact impl_quotient.mono _ _ _
   |exact LeO.none _
   |refine LeO.ite ?_ ?_
   |refine LeO.bind ?_ (fun _=>?_)
  ·intro y0 y1 y2;unfold impl_cyclotomic.l0;repeat' first
   |(with_reducible exact ih0 _)
   |(with_reducible exact ih1 _ _ _)
   |(with_reducible exact impl_quotient.mono _ _ _)
   |(with_reducible exact LeO.refl _)
   |(with_reducible exact LeO.none _)
   |(with_reducible refine LeO.ite ?_ ?_)
   |(with_reducible refine LeO.bind ?_ (fun _=>?_))
   |exact ih0 _
   |exact ih1 _ _ _
   |exact impl_quotient.mono _ _ _
   |exact LeO.none _
   |refine LeO.ite ?_ ?_
   |refine LeO.bind ?_ (fun _=>?_)
theorem impl_cyclotomic.mono:∀a0 k,LeO (impl_cyclotomic.f k a0) (impl_cyclotomic.f (k+1) a0):=by
 intro a0 k;obtain⟨ih0,ih1⟩:=impl_cyclotomic.mono_l k;exact ih0 a0
set_option maxHeartbeats 8000000 in
set_option maxRecDepth 100000 in
theorem impl_cyclotomic.calls (k:Nat):∀(a0:Int) (r:List Int) (w:World) (h:impl_cyclotomic.f k a0=some r),
  Calls Try.prog 108 #[.int .i64 a0] w fun e w'=>∃v0_:Value,e=.returned (v0_)∧Kd.R (Kd.int .i64) 2 w' w.heap.size (fun _=>True) v0_ r∧Below w.heap.size w w':=by
 induction k using Nat.strongRecOn with
 |_ k ih=>
 intro a0 r w h;cases k with
 |zero=>exact absurd h (by simp [impl_cyclotomic.f])
 |succ k=>
 simp only [impl_cyclotomic.f] at h;have HB:=qAm (Below.refl w.heap.size w);have H:(if 0≤(wrap64 (a0+1)) then (if (wrap64 (a0+1):Int).toNat≤35184372088832 then ((some (List.replicate (wrap64 (a0+1):Int).toNat 0:List Int)).bind fun y359=>(if 0<(y359.length:Int) then (if 0≤a0 then (if a0<(y359.length:Int) then (impl_cyclotomic.l0 k a0 ((y359.set (0:Int).toNat (-1)).set (a0:Int).toNat 1) 1) else (none)) else (none)) else (none))) else (none)) else (none))=some r:=h;clear h;obtain⟨ji2,hji2⟩:∃j_:Int,(wrap64 (a0+1))=j_:=⟨_,rfl⟩
 replace H:(if 0≤(ji2) then (if (ji2:Int).toNat≤35184372088832 then ((some (List.replicate (ji2:Int).toNat 0:List Int)).bind fun y359=>(if 0<(y359.length:Int) then (if 0≤a0 then (if a0<(y359.length:Int) then (impl_cyclotomic.l0 k a0 ((y359.set (0:Int).toNat (-1)).set (a0:Int).toNat 1) 1) else (none)) else (none)) else (none))) else (none)) else (none))=some r:=by first|(rw [hji2] at H;exact H)|(simp only [hji2] at H ⊢;exact H)
 have hji2w:(IntKind.i64.wrap (a0+1))=ji2:=(i64_w _).trans hji2
 by_cases c3:0≤(ji2)
 ·rw [if_pos c3] at H;have c3b0:=eq_true c3;have c3b1:decide (0≤(ji2))=true:=decide_eq_true c3;clear c3
  by_cases c4:(ji2:Int).toNat≤35184372088832
  ·rw [if_pos c4] at H;have c4b0:=eq_true c4;have c4b1:decide ((ji2:Int).toNat≤35184372088832)=true:=decide_eq_true c4;clear c4;obtain⟨y359,hy359⟩:∃y_:List Int,y_=(List.replicate (ji2:Int).toNat 0):=⟨_,rfl⟩
   replace H:(if 0<(y359.length:Int) then (if 0≤a0 then (if a0<(y359.length:Int) then (impl_cyclotomic.l0 k a0 ((y359.set (0:Int).toNat (-1)).set (a0:Int).toNat 1) 1) else (none)) else (none)) else (none))=some r:=by first|(rw [hy359];with_reducible exact H)|(have H2_:=(Option.bind_some _ _).symm.trans H;rw [hy359];with_reducible exact H2_)|(have H2_:=(Option.bind_some _ _).symm.trans H;with_reducible exact H2_)|with_reducible exact H|(rw [hy359];exact H)|exact H
   have Ny359:=qAm hy359;clear hy359
   by_cases c5:0<(y359.length:Int)
   ·rw [if_pos c5] at H;have c5b0:decide (0<(y359.length:Int))=true:=decide_eq_true c5;have c5b1:decide (0<y359.length)=true:=decide_eq_true (by omega);clear c5;obtain⟨y362,hy362⟩:∃y_:List Int,y_=(y359.set (0:Int).toNat (-1)):=⟨_,rfl⟩
    replace H:(if 0≤a0 then (if a0<(y359.length:Int) then (impl_cyclotomic.l0 k a0 (y362.set (a0:Int).toNat 1) 1) else (none)) else (none))=some r:=by first|(rw [hy362];with_reducible exact H)|(have H2_:=(Option.bind_some _ _).symm.trans H;rw [hy362];with_reducible exact H2_)|(have H2_:=(Option.bind_some _ _).symm.trans H;with_reducible exact H2_)|with_reducible exact H|(rw [hy362];exact H)|exact H
    have Ny362:=qAm hy362;clear hy362
    by_cases c7:0≤a0
    ·rw [if_pos c7] at H;have c7b0:decide (0≤a0)=true:=decide_eq_true c7;clear c7
     by_cases c8:a0<(y359.length:Int)
     ·rw [if_pos c8] at H;have c8b0:decide (a0<(y359.length:Int))=true:=decide_eq_true c8;clear c8;obtain⟨y363,hy363⟩:∃y_:List Int,y_=(y362.set (a0:Int).toNat 1):=⟨_,rfl⟩
      replace H:(impl_cyclotomic.l0 k a0 y363 1)=some r:=by first|(rw [hy363];with_reducible exact H)|(have H2_:=(Option.bind_some _ _).symm.trans H;rw [hy363];with_reducible exact H2_)|(have H2_:=(Option.bind_some _ _).symm.trans H;with_reducible exact H2_)|with_reducible exact H|(rw [hy363];exact H)|exact H
      have Ny363:=qAm hy363;clear hy363;have H':=qAm H;clear H;go_enter Try.func108,Try.ntmps108;go_wp2_with (first|((with_reducible refine gate_dst (N:=7) rfl ?_);refine Kd.R_make (Kd.int .i64) _ 2 rfl (N:=7) rfl 22 _ _ rfl ji2 rfl rfl Try.underlying22 (.int .i64 0) 8 info2 rfl (by decide) (by omega) 0 (ok:=fun _=>True) (okp:=fun _=>True) rfl (fun _ hk=>hk) trivial (of_decide_eq_true qB177) (Nat.le_trans (Nat.mul_le_mul_right _ (of_decide_eq_true qB177:ji2.toNat≤35184372088832)) (by omega)) (Below.refl _ _) (Nat.le_refl _) ?_;intro v360 w10 ho11 hb hg_ hnew_;clear hg_ hnew_;(first|rw [← Ny359.1] at ho11|(simp only [Int.reduceToNat] at ho11;rw [← Ny359.1] at ho11));have n0_:=qAm (Kd.R_lower ho11 (below_size qB95));have n1_:=qAm (below_step qB95 hb);clear HB;have HO361:=n0_;have HB:=n1_;clear n0_ n1_;clear hb ho11;have p6:0≤(0:Int):=(by omega);have q6:(0:Int)<((y359.length:Int):Int):=of_decide_eq_true qB177;have qi6:(0<y359.length)=True:=eq_true (by omega);obtain⟨go6,co6,eo6,gb6,gl6,cl6,HG6⟩:=Kd.R_form HO361.1 (by omega);(first|cases eo6|(injection eo6 with ea_ en_ ec_;(first|subst ea_|(injection ea_ with ea_;subst ea_));subst ec_;clear en_));have GB6:=qAm gb6;have GG6:=qAm HG6;clear gb6 gl6 HG6;obtain⟨hx6_0,hf6_0⟩:=Kd.R_celln 0 HO361.1 (0:Int) p6 q6;(try rw [show((0:Int)).toNat=0 from rfl] at hx6_0);(try simp only [Nat.reduceMul,Nat.zero_mul,Nat.zero_add,Nat.reduceAdd] at hx6_0);(try rw [show((0:Int)).toNat=0 from rfl] at hf6_0);(try simp only [Nat.reduceMul,Nat.zero_mul,Nat.zero_add,Nat.reduceAdd] at hf6_0);replace p6:=eq_true p6;replace q6:=eq_true q6;obtain⟨hy12_,hz12_⟩:=Kd.R_celln 0 HO361.1 (0:Int) (by omega) (of_decide_eq_true qB177);(try simp only [Int.reduceToNat,Int.toNat_zero,Int.toNat_ofNat,Nat.reduceMul,Nat.zero_mul,Nat.zero_add] at hy12_ hz12_);(try rw [show((0:Int)).toNat=0 from rfl] at hy12_);(try rw [show((0:Int)).toNat=0 from rfl] at hz12_);have HP12:=Kd.R_putg HO361.1 (0:Int) (-1))|((with_reducible refine gate_store (t:=2) (p:=11) rfl ?_);refine store_event (t:=2) (p:=11) (v:=?vo_w13) (w1:=(w10.setCell ⟨go6,(0:Int).toNat,none⟩ (.int .i64 (-1)))) ?hg ?ho ?hn ?hr ?_;(case ho=>rfl);(case hg=>rfl);(case hn=>rfl);(case hr=>first|(go_simp;done)|(go_simp;rfl));intro w13 hw;have hg:w10.grownBy w13 (some go6):=(by rw [hw];exact HP12.2);have hp_:Kd.R (Kd.int .i64) 2 w13 w.heap.size (fun _=>True) (.slice (some ⟨go6,0,none⟩) y359.length co6) y362:=(by rw [hw,Ny362.1];exact HP12.1);clear HP12;have n0_:=qAm (hp_);have n1_:=qAm ((by rw [hw];exact below_set (HB.1) GB6.1:Below w.heap.size w w13));clear HO361;clear HB;have HO361:=n0_;have HB:=n1_;clear n0_ n1_;clear hg hw hp_;have p9:0≤(a0:Int):=of_decide_eq_true qB177;have q9:(a0:Int)<((y359.length:Int):Int):=of_decide_eq_true qB177;obtain⟨hx9_0,hf9_0⟩:=Kd.R_celln 0 HO361.1 (a0:Int) p9 q9;replace p9:=eq_true p9;replace q9:=eq_true q9;obtain⟨hy14_,hz14_⟩:=Kd.R_celln 0 HO361.1 (a0:Int) (of_decide_eq_true qB177) (of_decide_eq_true qB177);have HP14:=Kd.R_putg HO361.1 (a0:Int) 1)|((with_reducible refine gate_store (t:=2) (p:=12) rfl ?_);refine store_event (t:=2) (p:=12) (v:=?vo_w15) (w1:=(w13.setCell ⟨go6,(a0:Int).toNat,none⟩ (.int .i64 1))) ?hg ?ho ?hn ?hr ?_;(case ho=>rfl);(case hg=>rfl);(case hn=>rfl);(case hr=>first|(go_simp;done)|(go_simp;rfl));intro w15 hw;have hg:w13.grownBy w15 (some go6):=(by rw [hw];exact HP14.2);have hp_:Kd.R (Kd.int .i64) 2 w15 w.heap.size (fun _=>True) (.slice (some ⟨go6,0,none⟩) y359.length co6) y363:=(by rw [hw,Ny363.1];exact HP14.1);clear HP14;have n0_:=qAm (hp_);have n1_:=qAm ((by rw [hw];exact below_set (HB.1) GB6.1:Below w.heap.size w w15));clear HO361;clear HB;have HO361:=n0_;have HB:=n1_;clear n0_ n1_;clear hg hw hp_));try simp only [Act.put,qSa,qSc,qSb]
      go_loopg [3,4] k (fun kq v3 v4 w'=>∃(x3_1:List Int) (x4_1:Int),v4=.int .i64 x4_1∧Aside0 (impl_cyclotomic.l0 kq a0 x3_1 x4_1=some r)∧Aside0 (kq≤k)∧Aside0 (Kd.R (Kd.int .i64) 2 w' w.heap.size (fun _=>True) v3 x3_1)∧Aside0 (Below w.heap.size w w'))
      case atStart=>exact⟨(y363),(1),qB178,H',⟨Nat.le_refl _⟩,⟨by (with_reducible repeat(first|apply Kd.R_alloc|apply Kd.R_drewN|apply Kd.R_drew));exact HO361.1⟩,⟨by repeat(first|(with_reducible first|exact HB.1|apply below_alloc|apply pw_below_drewN|apply below_drew1)|exact HB.1)⟩⟩
      case round=>
       clear H';try clear c1
       try clear p2
       try clear c3
       try clear c3b0
       try clear c3b1
       try clear c4
       try clear c4b0
       try clear c4b1
       try clear c5
       try clear c5b0
       try clear c5b1
       try clear p6
       try clear q6
       try clear hx6
       try clear qi6
       try clear hf6
       try clear c7
       try clear c7b0
       try clear c8
       try clear c8b0
       try clear p9
       try clear q9
       try clear hx9
       try clear hf9
       try clear c10
       try clear hx6_0
       try clear hx9_0
       try clear p6
       try clear p9
       try clear q6
       try clear q9
       obtain⟨x3_1,x4_1,rfl,HA,HK1,HO_3,HB⟩:=hrel;cases gk with
       |zero=>exact absurd HA.1 (by simp [impl_cyclotomic.l0])
       |succ k1=>
        have H:=HA.1;clear HA;simp only [impl_cyclotomic.l0] at H
        by_cases c16:x4_1<a0
        ·rw [if_pos c16] at H;have c16b0:decide (x4_1<a0)=true:=decide_eq_true c16;clear c16
         by_cases c17:x4_1=0
         ·rw [if_pos c17] at H;exact absurd H (by simp)
         ·rw [if_neg c17] at H;have c17b0:(x4_1==0)=false:=beq_eq_false_iff_ne.mpr c17;have c17b1:(x4_1 !=0)=true:=bne_iff_ne.mpr c17
          by_cases c18:(Int.tmod a0 x4_1)=0
          ·rw [if_pos c18] at H;have c18b0:((Int.tmod a0 x4_1)==0)=true:=beq_iff_eq.mpr c18;have c18b1:((Int.tmod a0 x4_1) !=0)=false:=bne_eq_false_iff_eq.mpr c18;clear c18;replace H:=qOb H;obtain⟨t364,A190,H⟩:=H;replace H:((impl_quotient.f k1 x3_1 t364).bind fun t367=>(impl_cyclotomic.l0 k1 a0 t367 (wrap64 (x4_1+1))))=some r:=H;have A19:=qAm A190;clear A190;replace H:=qOb H;obtain⟨t367,A200,H⟩:=H;replace H:(impl_cyclotomic.l0 k1 a0 t367 (wrap64 (x4_1+1)))=some r:=H;have A20:=qAm A200;clear A200;have H':=qAm H;clear H;go_wp2_with (first|((with_reducible refine gate_callee (f:=108) rfl ?_);refine goesL_ (some 24) rfl rfl Try.func108 (by kernel_rfl) rfl #[.int .i64 x4_1] rfl qB90 ?_;(with_reducible refine(ih k1 (by have:=HK1.1;omega) x4_1 t364 _ A19.1).mono ?_);rintro e w21 ⟨v365,rfl,ho0,hb⟩;refine⟨_,rfl,?_⟩;have n0_:=qAm (Kd.R_elder' qB170 (Kd.R_base ho0) hb);have n1_:=qAm (Kd.R_lower (Kd.R_new' ho0 (Kd.R_lt qB170)) (below_size qB95));have n2_:=qAm (below_step qB95 hb);clear HO_3;clear HB;have HO_3:=n0_;have HO366:=n1_;have HB:=n2_;clear n0_ n1_ n2_;(try clear hb);(try clear hb2);(try clear hk);(try clear hi);(try clear ho0);obtain⟨Ao22,co22,eo22⟩:=Kd.R_slice HO_3.1;subst eo22;obtain⟨Ao23,co23,eo23⟩:=Kd.R_slice HO366.1;subst eo23)|((with_reducible refine gate_callee (f:=133) rfl ?_);refine goesL_ (some 25) rfl rfl Try.func133 (by kernel_rfl) rfl #[.slice Ao22 x3_1.length co22,.slice Ao23 t364.length co23] rfl qB90 ?_;(with_reducible refine(impl_quotient.calls k1 _ _ x3_1 _ _ t364 t367 _ ?side1 ?side2 ?side3 ?side4 A20.1).mono ?_);(case side1=>repeat(first|exact(Kd.R_reads' HO_3.1).2.2|(with_reducible refine Kd.C_alloc ?_ _)|(with_reducible refine Kd.C_drewN ?_ _)|(with_reducible refine Kd.C_drew ?_)));(case side2=>exact(Kd.R_reads' HO_3.1).2.1);(case side3=>repeat(first|exact(Kd.R_reads' HO366.1).2.2|(with_reducible refine Kd.C_alloc ?_ _)|(with_reducible refine Kd.C_drewN ?_ _)|(with_reducible refine Kd.C_drew ?_)));(case side4=>exact(Kd.R_reads' HO366.1).2.1);rintro e w24 ⟨v368,rfl,ho0,hb⟩;refine⟨_,rfl,?_⟩;have n0_:=qAm (Kd.R_elder' qB170 (Kd.R_base ho0) hb);have n1_:=qAm (Kd.R_elder' qB162 (Kd.R_base ho0) hb);have n2_:=qAm (Kd.R_lower (Kd.R_new' (Kd.R_new' ho0 (Kd.R_lt qB170)) (Kd.R_lt qB162)) (below_size qB95));have n3_:=qAm (below_step qB95 hb);clear HO_3;clear HO366;clear HB;have HO_3:=n0_;have HO366:=n1_;have HO369:=n2_;have HB:=n3_;clear n0_ n1_ n2_ n3_;(try clear hb);(try clear hb2);(try clear hk);(try clear hi);(try clear ho0)))
           (first|go_roundg k1|((try simp only [add_plain] at *);go_roundg k1))
           case measure=>have:=HK1.1;omega
           case rel=>exact⟨(t367),(wrap64 (x4_1+1)),qB178,H',⟨by have:=HK1.1;omega⟩,⟨by (with_reducible repeat(first|apply Kd.R_alloc|apply Kd.R_drewN|apply Kd.R_drew));exact Kd.R_mono HO369.1 (fun _ hk=>trivial)⟩,⟨by repeat(first|(with_reducible first|exact HB.1|apply below_alloc|apply pw_below_drewN|apply below_drew1)|exact HB.1)⟩⟩
          ·rw [if_neg c18] at H;have c18b0:((Int.tmod a0 x4_1)==0)=false:=beq_eq_false_iff_ne.mpr c18;have c18b1:((Int.tmod a0 x4_1) !=0)=true:=bne_iff_ne.mpr c18;have H':=qAm H;clear H;go_wp2
           (first|go_roundg k1|((try simp only [add_plain] at *);go_roundg k1))
           case measure=>have:=HK1.1;omega
           case rel=>exact⟨(x3_1),(wrap64 (x4_1+1)),qB178,H',⟨by have:=HK1.1;omega⟩,⟨by (with_reducible repeat(first|apply Kd.R_alloc|apply Kd.R_drewN|apply Kd.R_drew));exact HO_3.1⟩,⟨by repeat(first|(with_reducible first|exact HB.1|apply below_alloc|apply pw_below_drewN|apply below_drew1)|exact HB.1)⟩⟩
        ·rw [if_neg c16] at H;have c16b0:decide (x4_1<a0)=false:=decide_eq_false c16;clear c16;obtain rfl:=Option.some.inj H;go_wp2;go_ret;exact⟨_,by first|rfl|(simp [errW_none,errW_some] <;> rfl)|(simp only [← hji2];first|rfl|(simp [errW_none,errW_some] <;> rfl))|(simp [*,errW_none,errW_some] <;> rfl),by (with_reducible repeat(first|apply Kd.R_alloc|apply Kd.R_drewN|apply Kd.R_drew));exact HO_3.1,by repeat(first|(with_reducible first|exact HB.1|apply below_alloc|apply pw_below_drewN|apply below_drew1)|exact HB.1)⟩
     ·rw [if_neg c8] at H;exact absurd H (by simp)
    ·rw [if_neg c7] at H;exact absurd H (by simp)
   ·rw [if_neg c5] at H;exact absurd H (by simp)
  ·rw [if_neg c4] at H;exact absurd H (by simp)
 ·rw [if_neg c3] at H;exact absurd H (by simp)

/-! ### impl_powers: function 142 -/
-- HAND
/-- A row behind 'copy(row[1:], row[:j])'. -/
def hsh (l:List Int) (j:Int):List Int:=splice l 1 (l.take j.toNat)
theorem hcp_app {α:Type} (A B X:List α) (h:1+X.length≤A.length):splice (A ++ B) 1 X=splice A 1 X ++ B:=by
 unfold splice;rw [List.take_append_of_le_length (by omega),List.drop_append_of_le_length (by omega)];simp only [List.append_assoc]
theorem hcp_take {α:Type} (C X:List α) (n:Nat) (h:1+X.length≤n) (hn:n≤C.length):(C.take 1 ++ (X ++ C.drop (1+X.length))).take n=(C.take n).take 1 ++ (X ++ (C.take n).drop (1+X.length)):=by
 have h1:(C.take n).length=n:=by rw [List.length_take];omega
 have e:=hcp_app (C.take n) (C.drop n) X (by omega);rw [List.take_append_drop] at e;have e2:(splice (C.take n) 1 X).length=n:=by rw [length_splice _ _ _ (by omega)];exact h1
 show(splice C 1 X).take n=splice (C.take n) 1 X
 rw [e,List.take_append_of_le_length (by omega),List.take_of_length_le (by omega)]
theorem hcp_size:(Try.prog.info? 2).map (·.size)=some 1:=by kernel_rfl
theorem hcp_step {P:Program} {ops:Array Oper} {o:Oper} {a:Act} {w:World} {K:Act→World→Prop} {Q:Exit→Act→World→Prop} {E:Prop} (hgd:o.guard=none) (d s:Operand) (dT sT:TypeId)
  (ho:o.op=.call { callee:=.builtin .copy,args:=#[d,s],argTypes:=#[dT,sT] }) (elem:TypeId) (hu:P.underlying dT=some (.slice elem)) (hsz:(P.info? elem).map (·.size)=some 1)
  (dp:Option Addr) (dLen dCap sCap:Nat) (j:Int) (g cap e base:Nat) (ok:Nat→Prop) (xs:List Int)
  (HO:Kd.R (Kd.int .i64) e w base ok (.slice (some ⟨g,0,none⟩) xs.length cap) xs)
  (hd:a.eval d=.slice dp dLen dCap) (hs:a.eval s=.slice (some ⟨g,0,none⟩) j.toNat sCap)
  (h1:dLen=xs.length - 1) (h2:j.toNat+1≤xs.length) (hdp:0<j.toNat→dp=some ⟨g,1,none⟩)
  (h:∀w',Aside0 (Kd.R (Kd.int .i64) e w' base ok (.slice (some ⟨g,0,none⟩) xs.length cap) (hsh xs j))→Aside0 (w.grownBy w' (some g))→K (a.put o.dst (goInt j.toNat)) w'):
  if Region.wanted o (yielded ops a.tmps)=true then Oper.wp P o a w K Q else E:=by
 have hok:=HO.1;have hown:=Kd.own_of_R HO;clear HO;generalize hm:j.toNat=m at *;have hf:hsh xs j=splice xs 1 (xs.take m):=by rw [hsh,hm]
 have hlen:(splice xs 1 (xs.take m)).length=xs.length:=length_splice _ _ _ (by rw [List.length_take];omega);have hw:Region.wanted o (yielded ops a.tmps)=true:=by simp [Region.wanted,hgd]
 rw [if_pos hw]
 rcases hown.2 with ⟨h',_⟩|⟨g',cap',cur,h',hb,hh,hc1,hc2,hc3,hc4⟩
 ·cases h'
 ·have hgg:g=g':=by injection h' with h';injection h' with h';injection h' with h'
  have hcc:cap=cap':=by injection h'
  subst hgg hcc;have hsz2:cur.toList.length=cap:=by simpa using hc3
  have hrow:Kd.R (Kd.int .i64) e (w.setRow g (splice cur.toList 1 (encs (Value.int .i64) (xs.take m))).toArray) base ok (.slice (some ⟨g,0,none⟩) xs.length cap) (hsh xs j):=by
   rw [hf,← hlen];refine Kd.R_of_own ?_ (by rw [hlen];exact hok);have hl2:(splice cur.toList 1 (encs (Value.int .i64) (xs.take m))).length=cap:=by rw [length_splice _ _ _ (by rw [encs_length,List.length_take];omega),hsz2]
   refine⟨by rw [encs_length];omega,.inr ⟨g,cap,_,by rw [hlen],hb,setRow_heap w g _ _ _ _ hh,by rw [hlen];exact hc1,hc2,by rw [List.size_toArray,hl2];omega,?_⟩⟩;rw [hlen];simp only [Nat.mul_one,encs] at hc4 ⊢;have hc4':List.take xs.length cur.toList=xs.map (Value.int .i64):=by simpa using hc4
   unfold splice;simp only [List.map_append,List.map_take,List.map_drop,List.length_map];rw [← hc4'];have q0:xs.length≤cur.toList.length:=by omega
   rw [show(List.take m xs).length=(List.take m (List.take xs.length cur.toList)).length by rw [List.length_take,List.length_take,List.length_take];omega];refine hcp_take cur.toList _ xs.length ?_ q0;rw [List.length_take,List.length_take]
   omega
  have hgrow:w.grownBy (w.setRow g (splice cur.toList 1 (encs (Value.int .i64) (xs.take m))).toArray) (some g):=
   ⟨rfl,rfl,rfl,by simp [World.setRow],fun k _ hk=>setRow_other w g k _ (fun e=>hk (by rw [e]))⟩
  by_cases h0:m=0
  ·have hrun:=run_copy_none (P:=P) w dT sT o.type elem dp (some ⟨g,0,none⟩) dLen dCap m sCap hu hsz (by rw [h0];exact Nat.zero_min _);unfold Oper.wp
   simp [execOp,ho,resolve,invoke,builtin,hd,hs,hrun,Result.andThen]
   have hself:w.setRow g (splice cur.toList 1 (encs (Value.int .i64) (xs.take m))).toArray=w:=by
    rw [h0];simp only [splice,encs,List.take_zero,List.map_nil,List.nil_append,List.length_nil,Nat.add_zero,List.take_append_drop,Array.toArray_toList];exact setRow_self w g cur e (0,0) hh
   have:=h _ ⟨hrow⟩ ⟨hgrow⟩;rw [hself,h0] at this;exact this
  ·obtain rfl:=hdp (by omega);have hcl:(encs (Value.int .i64) (xs.take m)).length=m:=by rw [encs_length,List.length_take];omega
   have hrun:=run_copy_row (P:=P) w dT sT o.type elem g 1 dLen dCap ⟨g,0,none⟩ m sCap cur e (encs (Value.int .i64) (xs.take m)) hu hsz hh (by rw [hcl,h1];exact(Nat.min_eq_left (by omega)).symm) (fun i v hv=>?_) (by rw [hcl];simp only [Nat.mul_one] at hc3;omega) (fun v hv=>by obtain⟨z,_,rfl⟩:=List.mem_map.mp (show v∈List.map (Value.int .i64) (xs.take m) from hv);rfl)
   ·unfold Oper.wp;simp only [execOp,ho,resolve,invoke,builtin]
    simp [hd,hs,hrun,Result.andThen]
    have h3:=h _ ⟨hrow⟩ ⟨hgrow⟩;have h4:K (a.put o.dst (goInt (encs (Value.int .i64) (xs.take m)).length)) (w.setRow g (splice cur.toList 1 (encs (Value.int .i64) (xs.take m))).toArray):=by rw [hcl];exact h3
    exact h4
   ·rw [add_plain];have hi:i<m:=by rcases Nat.lt_or_ge i m with q|q;exact q;rw [List.getElem?_eq_none (by omega)] at hv;cases hv
    have hv2:(encs (Value.int .i64) xs)[i]? =some v:=by
     simp only [encs,List.map_take,List.getElem?_take,hi,if_true] at hv ⊢;exact hv
    rw [← hc4,List.getElem?_take] at hv2;simp only [World.cell?,hh]
    split at hv2
    ·simpa using hv2
    ·cases hv2
mutual
def impl_powers.l0:Nat→List Int→Int→List Int→List (List Int)→Int→Int→Option ((List (List Int)))
 |0,_,_,_,_,_,_=>none
 |k+1,x3,x4,x5,x6,x23,x24=>if x24<x23 then ((slices_Clone_int64_int64.f x5).bind fun t383=>(if x6.length<5864062014805 then (if 0≤(wrap64 (x4 - 1)) then (if (wrap64 (x4 - 1))<(x5.length:Int) then (if 0<(x5.length:Int) then (impl_powers.l1 k x3 x4 ((hsh x5 (wrap64 (x4 - 1))).set (0:Int).toNat 0) (x6 ++ [t383]) (rd x5 (wrap64 (x4 - 1))) x23 x24 (x5.length:Int) 0) else (none)) else (none)) else (none)) else (none))) else (some x6)
def impl_powers.l1:Nat→List Int→Int→List Int→List (List Int)→Int→Int→Int→Int→Int→Option ((List (List Int)))
 |0,_,_,_,_,_,_,_,_,_=>none
 |k+1,x3,x4,x5,x6,x7,x23,x24,x46,x47=>if x47<x46 then (if 0≤x47 then (if x47<(x5.length:Int) then (if x47<(x3.length:Int) then (impl_powers.l1 k x3 x4 (x5.set (x47:Int).toNat (wrap64 ((rd x5 x47) - (wrap64 (x7*(rd x3 x47)))))) x6 x7 x23 x24 x46 (wrap64 (x47+1))) else (none)) else (none)) else (none)) else (impl_powers.l0 k x3 x4 x5 x6 x23 (wrap64 (x24+1)))
end
def impl_powers.f (k:Nat) (a0:Int):Option ((List (List Int))):=(impl_cyclotomic.f k a0).bind fun t370=>(if 0≤(wrap64 ((t370.length:Int) - 1)) then (if (wrap64 ((t370.length:Int) - 1):Int).toNat≤35184372088832 then ((some (List.replicate (wrap64 ((t370.length:Int) - 1):Int).toNat 0:List Int)).bind fun y373=>(if 0<(y373.length:Int) then ((some (y373.set (0:Int).toNat 1:List Int)).bind fun y376=>(if a0=1 then (some (([y376]:List (List Int)))) else (impl_powers.l0 k t370 (wrap64 ((t370.length:Int) - 1)) y376 (([]:List (List Int))) a0 0))) else (none))) else (none)) else (none))
theorem impl_powers.mono_l:∀k,(∀y0 y1 y2 y3 y4 y5,LeO (impl_powers.l0 k y0 y1 y2 y3 y4 y5) (impl_powers.l0 (k+1) y0 y1 y2 y3 y4 y5))∧(∀y0 y1 y2 y3 y4 y5 y6 y7 y8,LeO (impl_powers.l1 k y0 y1 y2 y3 y4 y5 y6 y7 y8) (impl_powers.l1 (k+1) y0 y1 y2 y3 y4 y5 y6 y7 y8))
 |0=>⟨fun _ _ _ _ _ _ r h=>by simp [impl_powers.l0] at h,fun _ _ _ _ _ _ _ _ _ r h=>by simp [impl_powers.l1] at h⟩
 |k+1=>by
  obtain⟨ih0,ih1⟩:=impl_powers.mono_l k;refine⟨?_,?_⟩
  ·intro y0 y1 y2 y3 y4 y5;unfold impl_powers.l0;repeat' first
   |(with_reducible exact ih0 _ _ _ _ _ _)
   |(with_reducible exact ih1 _ _ _ _ _ _ _ _ _)
   |(with_reducible exact impl_cyclotomic.mono _ _)
   |(with_reducible exact LeO.refl _)
   |(with_reducible exact LeO.none _)
   |(with_reducible refine LeO.ite ?_ ?_)
   |(with_reducible refine LeO.bind ?_ (fun _=>?_))
   |exact ih0 _ _ _ _ _ _
   |exact ih1 _ _ _ _ _ _ _ _ _
   |exact impl_cyclotomic.mono _ _
   |exact LeO.none _
   |refine LeO.ite ?_ ?_
   |refine LeO.bind ?_ (fun _=>?_)
  ·intro y0 y1 y2 y3 y4 y5 y6 y7 y8;unfold impl_powers.l1;repeat' first
   |(with_reducible exact ih0 _ _ _ _ _ _)
   |(with_reducible exact ih1 _ _ _ _ _ _ _ _ _)
   |(with_reducible exact impl_cyclotomic.mono _ _)
   |(with_reducible exact LeO.refl _)
   |(with_reducible exact LeO.none _)
   |(with_reducible refine LeO.ite ?_ ?_)
   |(with_reducible refine LeO.bind ?_ (fun _=>?_))
   |exact ih0 _ _ _ _ _ _
   |exact ih1 _ _ _ _ _ _ _ _ _
   |exact impl_cyclotomic.mono _ _
   |exact LeO.none _
   |refine LeO.ite ?_ ?_
   |refine LeO.bind ?_ (fun _=>?_)
theorem impl_powers.mono:∀a0 k,LeO (impl_powers.f k a0) (impl_powers.f (k+1) a0):=by
 intro a0 k;obtain⟨ih0,ih1⟩:=impl_powers.mono_l k;unfold impl_powers.f;repeat' first
   |(with_reducible exact ih0 _ _ _ _ _ _)
   |(with_reducible exact ih1 _ _ _ _ _ _ _ _ _)
   |(with_reducible exact impl_cyclotomic.mono _ _)
   |(with_reducible exact LeO.refl _)
   |(with_reducible exact LeO.none _)
   |(with_reducible refine LeO.ite ?_ ?_)
   |(with_reducible refine LeO.bind ?_ (fun _=>?_))
   |exact ih0 _ _ _ _ _ _
   |exact ih1 _ _ _ _ _ _ _ _ _
   |exact impl_cyclotomic.mono _ _
   |exact LeO.none _
   |refine LeO.ite ?_ ?_
   |refine LeO.bind ?_ (fun _=>?_)
def impl_powers.T17:Bool×List (List Nat×List Nat):=(true,[([],[]),([],[]),([0,1],[0,1]),([2],[2]),([],[]),([],[]),([],[]),([5,6],[5,6]),([7],[7]),([4,8],[4,8]),([3,9],[3,9]),([0,1,0,1,2,3,4,5,6,7,8,9,10],[0,1]),([11,10,0,1,2,3,4,5,6,7,8,9,10],[10,11])])
def impl_powers.B17:List Nat:=[0,0,3,7,0,0,0,96,224,496,1023,2047,4095]
theorem impl_powers.tab17:rtab .any (opsOf Try.f142 17)=impl_powers.T17:=by kernel_rfl
theorem impl_powers.bits17:waitsOk impl_powers.T17.2 impl_powers.B17=true:=by kernel_rfl
set_option maxHeartbeats 8000000 in
set_option maxRecDepth 100000 in
theorem impl_powers.calls (k:Nat) (a0:Int) (r:List (List Int)) (w:World) (h:impl_powers.f k a0=some r):
  Calls Try.prog 142 #[.int .i64 a0] w fun e w'=>∃v0_:Value,e=.returned (v0_)∧Kd.N (Kd.slice 2 (Kd.int .i64)) 22 w' w.heap.size (fun k_=>(w.heap.size≤k_)) v0_ r∧Below w.heap.size w w':=by
 have HB:=qAm (Below.refl w.heap.size w);have H:((impl_cyclotomic.f k a0).bind fun t370=>(if 0≤(wrap64 ((t370.length:Int) - 1)) then (if (wrap64 ((t370.length:Int) - 1):Int).toNat≤35184372088832 then ((some (List.replicate (wrap64 ((t370.length:Int) - 1):Int).toNat 0:List Int)).bind fun y373=>(if 0<(y373.length:Int) then ((some (y373.set (0:Int).toNat 1:List Int)).bind fun y376=>(if a0=1 then (some (([y376]:List (List Int)))) else (impl_powers.l0 k t370 (wrap64 ((t370.length:Int) - 1)) y376 (([]:List (List Int))) a0 0))) else (none))) else (none)) else (none)))=some r:=h;clear h;replace H:=qOb H;obtain⟨t370,A20,H⟩:=H;replace H:(if 0≤(wrap64 ((t370.length:Int) - 1)) then (if (wrap64 ((t370.length:Int) - 1):Int).toNat≤35184372088832 then ((some (List.replicate (wrap64 ((t370.length:Int) - 1):Int).toNat 0:List Int)).bind fun y373=>(if 0<(y373.length:Int) then ((some (y373.set (0:Int).toNat 1:List Int)).bind fun y376=>(if a0=1 then (some (([y376]:List (List Int)))) else (impl_powers.l0 k t370 (wrap64 ((t370.length:Int) - 1)) y376 (([]:List (List Int))) a0 0))) else (none))) else (none)) else (none))=some r:=H;have A2:=qAm A20;clear A20;obtain⟨ji3,hji3⟩:∃j_:Int,(wrap64 ((t370.length:Int) - 1))=j_:=⟨_,rfl⟩
 replace H:(if 0≤(ji3) then (if (ji3:Int).toNat≤35184372088832 then ((some (List.replicate (ji3:Int).toNat 0:List Int)).bind fun y373=>(if 0<(y373.length:Int) then ((some (y373.set (0:Int).toNat 1:List Int)).bind fun y376=>(if a0=1 then (some (([y376]:List (List Int)))) else (impl_powers.l0 k t370 ji3 y376 (([]:List (List Int))) a0 0))) else (none))) else (none)) else (none))=some r:=by first|(rw [hji3] at H;exact H)|(simp only [hji3] at H ⊢;exact H)
 (try rw [hji3] at A2)
 have hji3w:(IntKind.i64.wrap ((t370.length:Int) - 1))=ji3:=(i64_w _).trans hji3
 by_cases c4:0≤(ji3)
 ·rw [if_pos c4] at H;have c4b0:=eq_true c4;have c4b1:decide (0≤(ji3))=true:=decide_eq_true c4;clear c4
  by_cases c5:(ji3:Int).toNat≤35184372088832
  ·rw [if_pos c5] at H;have c5b0:=eq_true c5;have c5b1:decide ((ji3:Int).toNat≤35184372088832)=true:=decide_eq_true c5;clear c5;obtain⟨y373,hy373⟩:∃y_:List Int,y_=(List.replicate (ji3:Int).toNat 0):=⟨_,rfl⟩
   replace H:(if 0<(y373.length:Int) then ((some (y373.set (0:Int).toNat 1:List Int)).bind fun y376=>(if a0=1 then (some (([y376]:List (List Int)))) else (impl_powers.l0 k t370 ji3 y376 (([]:List (List Int))) a0 0))) else (none))=some r:=by first|(rw [hy373];with_reducible exact H)|(have H2_:=(Option.bind_some _ _).symm.trans H;rw [hy373];with_reducible exact H2_)|(have H2_:=(Option.bind_some _ _).symm.trans H;with_reducible exact H2_)|with_reducible exact H|(rw [hy373];exact H)|exact H
   have Ny373:=qAm hy373;clear hy373
   by_cases c6:0<(y373.length:Int)
   ·rw [if_pos c6] at H;have c6b0:decide (0<(y373.length:Int))=true:=decide_eq_true c6;have c6b1:decide (0<y373.length)=true:=decide_eq_true (by omega);clear c6;obtain⟨y376,hy376⟩:∃y_:List Int,y_=(y373.set (0:Int).toNat 1):=⟨_,rfl⟩
    replace H:(if a0=1 then (some (([y376]:List (List Int)))) else (impl_powers.l0 k t370 ji3 y376 (([]:List (List Int))) a0 0))=some r:=by first|(rw [hy376];with_reducible exact H)|(have H2_:=(Option.bind_some _ _).symm.trans H;rw [hy376];with_reducible exact H2_)|(have H2_:=(Option.bind_some _ _).symm.trans H;with_reducible exact H2_)|with_reducible exact H|(rw [hy376];exact H)|exact H
    have Ny376:=qAm hy376;clear hy376
    by_cases c8:a0=1
    ·rw [if_pos c8] at H;have c8b0:(a0==1)=true:=beq_iff_eq.mpr c8;have c8b1:(a0 !=1)=false:=bne_eq_false_iff_eq.mpr c8;clear c8;obtain⟨y377,hy377⟩:∃y_:List (List Int),y_=(([y376]:List (List Int))):=⟨_,rfl⟩
     replace H:(some y377)=some r:=by first|(rw [hy377];with_reducible exact H)|(have H2_:=(Option.bind_some _ _).symm.trans H;rw [hy377];with_reducible exact H2_)|(have H2_:=(Option.bind_some _ _).symm.trans H;with_reducible exact H2_)|with_reducible exact H|(rw [hy377];exact H)|exact H
     have Ny377:=qAm hy377;clear hy377;obtain rfl:=Option.some.inj H;go_enter Try.func142,Try.ntmps142;go_wp2_with (first|((with_reducible refine gate_callee (f:=108) rfl ?_);refine goesL_ (some 10) rfl rfl Try.func108 (by kernel_rfl) rfl #[.int .i64 a0] rfl qB90 ?_;(with_reducible refine(impl_cyclotomic.calls k a0 t370 _ A2.1).mono ?_);rintro e w9 ⟨v371,rfl,ho0,hb⟩;refine⟨_,rfl,?_⟩;have n0_:=qAm (Kd.R_lower (Kd.R_newM (M:=fun k_=>(w.heap.size≤k_)) ho0 (below_size qB95) (fun k_ h_=>h_)) (below_size qB95));have n1_:=qAm (below_step qB95 hb);clear HB;have HO372:=n0_;have HB:=n1_;clear n0_ n1_;(try clear hb);(try clear hb2);(try clear hk);(try clear hi);(try clear ho0);obtain⟨Ao10,co10,eo10⟩:=Kd.R_slice HO372.1;subst eo10)|((with_reducible refine gate_dst (N:=15) rfl ?_);refine Kd.R_make (Kd.int .i64) _ 2 rfl (N:=15) rfl 22 _ _ rfl ji3 rfl rfl Try.underlying22 (.int .i64 0) 8 info2 rfl (by decide) (by omega) 0 (ok:=fun _=>True) (okp:=fun _=>True) rfl (fun _ hk=>hk) trivial (of_decide_eq_true qB177) (Nat.le_trans (Nat.mul_le_mul_right _ (of_decide_eq_true qB177:ji3.toNat≤35184372088832)) (by omega)) (Below.refl _ _) (Nat.le_refl _) ?_;intro v374 w11 ho12 hb hg_ hnew_;clear hg_ hnew_;(first|rw [← Ny373.1] at ho12|(simp only [Int.reduceToNat] at ho12;rw [← Ny373.1] at ho12));have n0_:=qAm (Kd.R_elder' qB163 (Kd.R_base ho12) hb);have n1_:=qAm (Kd.R_lower (Kd.R_new' (Kd.R_newM (M:=fun k_=>(w.heap.size≤k_)) ho12 (below_size qB95) (fun k_ h_=>h_)) (Kd.R_lt qB163)) (below_size qB95));have n2_:=qAm (below_step qB95 hb);clear HO372;clear HB;have HO372:=n0_;have HO375:=n1_;have HB:=n2_;clear n0_ n1_ n2_;clear hb ho12;have p7:0≤(0:Int):=(by omega);have q7:(0:Int)<((y373.length:Int):Int):=of_decide_eq_true qB177;have qi7:(0<y373.length)=True:=eq_true (by omega);obtain⟨go7,co7,eo7,gb7,gl7,cl7,HG7⟩:=Kd.R_form HO375.1 (by omega);(first|cases eo7|(injection eo7 with ea_ en_ ec_;(first|subst ea_|(injection ea_ with ea_;subst ea_));subst ec_;clear en_));have GB7:=qAm gb7;have GG7:=qAm HG7;clear gb7 gl7 HG7;obtain⟨hx7_0,hf7_0⟩:=Kd.R_celln 0 HO375.1 (0:Int) p7 q7;(try rw [show((0:Int)).toNat=0 from rfl] at hx7_0);(try simp only [Nat.reduceMul,Nat.zero_mul,Nat.zero_add,Nat.reduceAdd] at hx7_0);(try rw [show((0:Int)).toNat=0 from rfl] at hf7_0);(try simp only [Nat.reduceMul,Nat.zero_mul,Nat.zero_add,Nat.reduceAdd] at hf7_0);replace p7:=eq_true p7;replace q7:=eq_true q7;have n_:=qAm (Kd.R_mono (ok':=(fun k_=>(w.heap.size≤k_)∧some k_≠(.slice Ao10 t370.length co10:Value).ownBlock)) HO375.1 (fun k_ hk=>⟨hk.1.1,hk.2⟩));clear HO375;have HO375:=n_;clear n_;obtain⟨hy13_,hz13_⟩:=Kd.R_celln 0 HO375.1 (0:Int) (by omega) (of_decide_eq_true qB177);(try simp only [Int.reduceToNat,Int.toNat_zero,Int.toNat_ofNat,Nat.reduceMul,Nat.zero_mul,Nat.zero_add] at hy13_ hz13_);(try rw [show((0:Int)).toNat=0 from rfl] at hy13_);(try rw [show((0:Int)).toNat=0 from rfl] at hz13_);have HP13:=Kd.R_putg HO375.1 (0:Int) 1)|((with_reducible refine gate_store (t:=2) (p:=17) rfl ?_);refine store_event (t:=2) (p:=17) (v:=?vo_w14) (w1:=(w11.setCell ⟨go7,(0:Int).toNat,none⟩ (.int .i64 1))) ?hg ?ho ?hn ?hr ?_;(case ho=>rfl);(case hg=>rfl);(case hn=>rfl);(case hr=>first|(go_simp;done)|(go_simp;rfl));intro w14 hw;have hg:w11.grownBy w14 (some go7):=(by rw [hw];exact HP13.2);have hp_:Kd.R (Kd.int .i64) 2 w14 w.heap.size (fun k_=>(w.heap.size≤k_)∧some k_≠(.slice Ao10 t370.length co10:Value).ownBlock) (.slice (some ⟨go7,0,none⟩) y373.length co7) y376:=(by rw [hw,Ny376.1];exact HP13.1);clear HP13;have n0_:=qAm (Kd.R_after (v:=(.slice (some ⟨go7,0,none⟩) y373.length co7)) (v1:=(.slice (some ⟨go7,0,none⟩) y373.length co7)) (ok:=(fun k_=>(w.heap.size≤k_))) qB85 hg (.inl rfl));have n1_:=qAm (hp_);have n2_:=qAm ((by rw [hw];exact below_set (HB.1) GB7.1:Below w.heap.size w w14));clear HO372;clear HO375;clear HB;have HO372:=n0_;have HO375:=n1_;have HB:=n2_;clear n0_ n1_ n2_;clear hg hw hp_)|((with_reducible refine gate_dst (N:=21) rfl ?_);refine Kd.N_lit (Kd.slice 2 (Kd.int .i64)) _ 22 ?hg (N':=21) ?hd (xs:=([y376]:List (List Int))) (inner:=[.slice (some ⟨go7,0,none⟩) y373.length co7]) (ok:=(fun k_=>(w.heap.size≤k_)∧some k_≠(.slice Ao10 t370.length co10:Value).ownBlock)) (okp:=(fun k_=>(w.heap.size≤k_)∧some k_≠(.slice Ao10 t370.length co10:Value).ownBlock)) ?hr ?hp (fun _ hk=>hk) ((show ∀k_,w14.heap.size≤k_→(fun k_=>(w.heap.size≤k_)∧some k_≠(.slice Ao10 t370.length co10:Value).ownBlock) k_ from fun k_ hk=>⟨(Nat.le_trans (below_size qB95) hk),Kd.fresh' (Kd.R_lt qB163) k_ hk⟩) _ (Nat.le_refl _)) (Below.refl _ _) (Nat.le_refl _) (by simp) ?_;(case hd=>rfl);(case hg=>rfl);(case hr=>first|(go_simp;done)|(go_simp;rfl));(case hp=>exact(Reps.one (show Kd.FK (Kd.slice 2 (Kd.int .i64)) _ _ y376 [.slice (some ⟨go7,0,none⟩) y373.length co7] from (by first|exact(Kd.FK_slice_mk (Kd.R_reads' (Kd.R_mono (ok':=(fun k_=>(w.heap.size≤k_)∧some k_≠(.slice Ao10 t370.length co10:Value).ownBlock)) (HO375.1) (fun k_ hk=>⟨hk.1,hk.2⟩))).2.1 (Kd.R_F (Kd.R_mono (ok':=(fun k_=>(w.heap.size≤k_)∧some k_≠(.slice Ao10 t370.length co10:Value).ownBlock)) (HO375.1) (fun k_ hk=>⟨hk.1,hk.2⟩))))|(have hX_:=HO375.1;have e_:=(Kd.R_reads' hX_).1;rw [e_] at hX_ ⊢;exact(Kd.FK_slice_mk (Kd.R_reads' (Kd.R_mono (ok':=(fun k_=>(w.heap.size≤k_)∧some k_≠(.slice Ao10 t370.length co10:Value).ownBlock)) (hX_) (fun k_ hk=>⟨hk.1,hk.2⟩))).2.1 (Kd.R_F (Kd.R_mono (ok':=(fun k_=>(w.heap.size≤k_)∧some k_≠(.slice Ao10 t370.length co10:Value).ownBlock)) (hX_) (fun k_ hk=>⟨hk.1,hk.2⟩))))))) (Reps.none _ _)));intro v378 w15 ho16 hb hg_ hnew_;clear hg_ hnew_;(first|rw [← Ny377.1] at ho16|(simp only [Int.reduceToNat] at ho16;rw [← Ny377.1] at ho16));have n0_:=qAm (Kd.R_below qB163 hb);have n1_:=qAm (Kd.N_lower ho16 (below_size qB95));have n2_:=qAm (below_step qB95 hb);clear HO372;clear HB;clear HO375;have HO372:=n0_;have HO379:=n1_;have HB:=n2_;clear n0_ n1_ n2_;clear hb ho16));go_ret;exact⟨_,by first|rfl|(simp [errW_none,errW_some] <;> rfl)|(simp only [← hji3];first|rfl|(simp [errW_none,errW_some] <;> rfl))|(simp [*,errW_none,errW_some] <;> rfl),by (with_reducible repeat(first|apply Kd.N_alloc|apply Kd.N_drewN|apply Kd.N_drew));exact Kd.N_mono HO379.1 (fun _ hk=>hk.1),by repeat(first|(with_reducible first|exact HB.1|apply below_alloc|apply pw_below_drewN|apply below_drew1)|exact HB.1)⟩
    ·rw [if_neg c8] at H;have c8b0:(a0==1)=false:=beq_eq_false_iff_ne.mpr c8;have c8b1:(a0 !=1)=true:=bne_iff_ne.mpr c8;obtain⟨y380,hy380⟩:∃y_:List (List Int),y_=(([]:List (List Int))):=⟨_,rfl⟩
     replace H:(impl_powers.l0 k t370 ji3 y376 y380 a0 0)=some r:=by first|(rw [hy380];with_reducible exact H)|(have H2_:=(Option.bind_some _ _).symm.trans H;rw [hy380];with_reducible exact H2_)|(have H2_:=(Option.bind_some _ _).symm.trans H;with_reducible exact H2_)|with_reducible exact H|(rw [hy380];exact H)|exact H
     have Ny380:=qAm hy380;clear hy380;have H':=qAm H;clear H;go_enter Try.func142,Try.ntmps142;go_wp2_with (first|((with_reducible refine gate_callee (f:=108) rfl ?_);refine goesL_ (some 10) rfl rfl Try.func108 (by kernel_rfl) rfl #[.int .i64 a0] rfl qB90 ?_;(with_reducible refine(impl_cyclotomic.calls k a0 t370 _ A2.1).mono ?_);rintro e w17 ⟨v371,rfl,ho0,hb⟩;refine⟨_,rfl,?_⟩;have n0_:=qAm (Kd.R_lower (Kd.R_newM (M:=fun k_=>(w.heap.size≤k_)) ho0 (below_size qB95) (fun k_ h_=>h_)) (below_size qB95));have n1_:=qAm (below_step qB95 hb);clear HB;have HO372:=n0_;have HB:=n1_;clear n0_ n1_;(try clear hb);(try clear hb2);(try clear hk);(try clear hi);(try clear ho0);obtain⟨Ao18,co18,eo18⟩:=Kd.R_slice HO372.1;subst eo18)|((with_reducible refine gate_dst (N:=15) rfl ?_);refine Kd.R_make (Kd.int .i64) _ 2 rfl (N:=15) rfl 22 _ _ rfl ji3 rfl rfl Try.underlying22 (.int .i64 0) 8 info2 rfl (by decide) (by omega) 0 (ok:=fun _=>True) (okp:=fun _=>True) rfl (fun _ hk=>hk) trivial (of_decide_eq_true qB177) (Nat.le_trans (Nat.mul_le_mul_right _ (of_decide_eq_true qB177:ji3.toNat≤35184372088832)) (by omega)) (Below.refl _ _) (Nat.le_refl _) ?_;intro v374 w19 ho20 hb hg_ hnew_;clear hg_ hnew_;(first|rw [← Ny373.1] at ho20|(simp only [Int.reduceToNat] at ho20;rw [← Ny373.1] at ho20));have n0_:=qAm (Kd.R_elder' qB163 (Kd.R_base ho20) hb);have n1_:=qAm (Kd.R_lower (Kd.R_new' (Kd.R_newM (M:=fun k_=>(w.heap.size≤k_)) ho20 (below_size qB95) (fun k_ h_=>h_)) (Kd.R_lt qB163)) (below_size qB95));have n2_:=qAm (below_step qB95 hb);clear HO372;clear HB;have HO372:=n0_;have HO375:=n1_;have HB:=n2_;clear n0_ n1_ n2_;clear hb ho20;have p7:0≤(0:Int):=(by omega);have q7:(0:Int)<((y373.length:Int):Int):=of_decide_eq_true qB177;have qi7:(0<y373.length)=True:=eq_true (by omega);obtain⟨go7,co7,eo7,gb7,gl7,cl7,HG7⟩:=Kd.R_form HO375.1 (by omega);(first|cases eo7|(injection eo7 with ea_ en_ ec_;(first|subst ea_|(injection ea_ with ea_;subst ea_));subst ec_;clear en_));have GB7:=qAm gb7;have GG7:=qAm HG7;clear gb7 gl7 HG7;obtain⟨hx7_0,hf7_0⟩:=Kd.R_celln 0 HO375.1 (0:Int) p7 q7;(try rw [show((0:Int)).toNat=0 from rfl] at hx7_0);(try simp only [Nat.reduceMul,Nat.zero_mul,Nat.zero_add,Nat.reduceAdd] at hx7_0);(try rw [show((0:Int)).toNat=0 from rfl] at hf7_0);(try simp only [Nat.reduceMul,Nat.zero_mul,Nat.zero_add,Nat.reduceAdd] at hf7_0);replace p7:=eq_true p7;replace q7:=eq_true q7;have n_:=qAm (Kd.R_mono (ok':=(fun k_=>(w.heap.size≤k_)∧some k_≠(.slice Ao18 t370.length co18:Value).ownBlock)) HO375.1 (fun k_ hk=>⟨hk.1.1,hk.2⟩));clear HO375;have HO375:=n_;clear n_;obtain⟨hy21_,hz21_⟩:=Kd.R_celln 0 HO375.1 (0:Int) (by omega) (of_decide_eq_true qB177);(try simp only [Int.reduceToNat,Int.toNat_zero,Int.toNat_ofNat,Nat.reduceMul,Nat.zero_mul,Nat.zero_add] at hy21_ hz21_);(try rw [show((0:Int)).toNat=0 from rfl] at hy21_);(try rw [show((0:Int)).toNat=0 from rfl] at hz21_);have HP21:=Kd.R_putg HO375.1 (0:Int) 1)|((with_reducible refine gate_store (t:=2) (p:=17) rfl ?_);refine store_event (t:=2) (p:=17) (v:=?vo_w22) (w1:=(w19.setCell ⟨go7,(0:Int).toNat,none⟩ (.int .i64 1))) ?hg ?ho ?hn ?hr ?_;(case ho=>rfl);(case hg=>rfl);(case hn=>rfl);(case hr=>first|(go_simp;done)|(go_simp;rfl));intro w22 hw;have hg:w19.grownBy w22 (some go7):=(by rw [hw];exact HP21.2);have hp_:Kd.R (Kd.int .i64) 2 w22 w.heap.size (fun k_=>(w.heap.size≤k_)∧some k_≠(.slice Ao18 t370.length co18:Value).ownBlock) (.slice (some ⟨go7,0,none⟩) y373.length co7) y376:=(by rw [hw,Ny376.1];exact HP21.1);clear HP21;have n0_:=qAm (Kd.R_after (v:=(.slice (some ⟨go7,0,none⟩) y373.length co7)) (v1:=(.slice (some ⟨go7,0,none⟩) y373.length co7)) (ok:=(fun k_=>(w.heap.size≤k_))) qB85 hg (.inl rfl));have n1_:=qAm (hp_);have n2_:=qAm ((by rw [hw];exact below_set (HB.1) GB7.1:Below w.heap.size w w22));clear HO372;clear HO375;clear HB;have HO372:=n0_;have HO375:=n1_;have HB:=n2_;clear n0_ n1_ n2_;clear hg hw hp_)|((with_reducible refine gate_dst (N:=22) rfl ?_);refine Kd.N_lit (Kd.slice 2 (Kd.int .i64)) _ 22 ?hg (N':=22) ?hd (xs:=([]:List (List Int))) (inner:=[]) (ok:=(fun k_=>(w.heap.size≤k_)∧some k_≠(.slice Ao18 t370.length co18:Value).ownBlock∧some k_≠(.slice (some ⟨go7,0,none⟩) y373.length co7:Value).ownBlock)) (okp:=(fun k_=>(w.heap.size≤k_)∧some k_≠(.slice Ao18 t370.length co18:Value).ownBlock∧some k_≠(.slice (some ⟨go7,0,none⟩) y373.length co7:Value).ownBlock)) ?hr ?hp (fun _ hk=>hk) ((show ∀k_,w22.heap.size≤k_→(fun k_=>(w.heap.size≤k_)∧some k_≠(.slice Ao18 t370.length co18:Value).ownBlock∧some k_≠(.slice (some ⟨go7,0,none⟩) y373.length co7:Value).ownBlock) k_ from fun k_ hk=>⟨(Nat.le_trans (below_size qB95) hk),Kd.fresh' (Kd.R_lt qB163) k_ hk,Kd.fresh' (Kd.R_lt qB164) k_ hk⟩) _ (Nat.le_refl _)) (Below.refl _ _) (Nat.le_refl _) (by simp) ?_;(case hd=>rfl);(case hg=>rfl);(case hr=>first|(go_simp;done)|(go_simp;rfl));(case hp=>exact(Reps.none _ _));intro v381 w23 ho24 hb hg_ hnew_;clear hg_ hnew_;(first|rw [← Ny380.1] at ho24|(simp only [Int.reduceToNat] at ho24;rw [← Ny380.1] at ho24));have n0_:=qAm (Kd.R_below qB163 hb);have n1_:=qAm (Kd.R_below qB164 hb);have n2_:=qAm (Kd.N_lower ho24 (below_size qB95));have n3_:=qAm (below_step qB95 hb);clear HO372;clear HO375;clear HB;have HO372:=n0_;have HO375:=n1_;have HO382:=n2_;have HB:=n3_;clear n0_ n1_ n2_ n3_;clear hb ho24));try simp only [Act.put,qSa,qSc,qSb]
     go_loopg [6,24] k (fun kq v6 v24 w'=>∃(x5_1:List Int) (x6_1:List (List Int)) (x24_1:Int),v24=.int .i64 x24_1∧Aside0 (impl_powers.l0 kq t370 ji3 x5_1 x6_1 a0 x24_1=some r)∧Aside0 (kq≤k)∧Aside0 (Kd.R (Kd.int .i64) 2 w' w.heap.size (fun k_=>(w.heap.size≤k_)∧some k_≠((.slice (some ⟨go7,0,none⟩) y373.length co7):Value).ownBlock) (.slice Ao18 t370.length co18) t370)∧Aside0 (Kd.R (Kd.int .i64) 2 w' w.heap.size (fun k_=>(w.heap.size≤k_)∧some k_≠((.slice Ao18 t370.length co18):Value).ownBlock) (.slice (some ⟨go7,0,none⟩) y373.length co7) x5_1)∧Aside0 (Kd.N (Kd.slice 2 (Kd.int .i64)) 22 w' w.heap.size (fun k_=>(w.heap.size≤k_)∧some k_≠((.slice Ao18 t370.length co18):Value).ownBlock∧some k_≠((.slice (some ⟨go7,0,none⟩) y373.length co7):Value).ownBlock) v6 x6_1)∧Aside0 (Below w.heap.size w w'))
     case atStart=>exact⟨(y376),(y380),(0),qB178,H',⟨Nat.le_refl _⟩,⟨by (with_reducible repeat(first|apply Kd.R_alloc|apply Kd.R_drewN|apply Kd.R_drew));exact HO372.1⟩,⟨by (with_reducible repeat(first|apply Kd.R_alloc|apply Kd.R_drewN|apply Kd.R_drew));exact HO375.1⟩,⟨by (with_reducible repeat(first|apply Kd.N_alloc|apply Kd.N_drewN|apply Kd.N_drew));exact HO382.1⟩,⟨by repeat(first|(with_reducible first|exact HB.1|apply below_alloc|apply pw_below_drewN|apply below_drew1)|exact HB.1)⟩⟩
     case round=>
      clear H';try clear c1
      try clear p2
      try clear c4
      try clear c4b0
      try clear c4b1
      try clear c5
      try clear c5b0
      try clear c5b1
      try clear c6
      try clear c6b0
      try clear c6b1
      try clear p6
      try clear p7
      try clear q7
      try clear hx7
      try clear qi7
      try clear hf7
      try clear c8
      try clear c8b0
      try clear c8b1
      try clear c10
      try clear c14
      try clear hx7_0
      try clear p7
      try clear q7
      obtain⟨x5_1,x6_1,x24_1,rfl,HA,HK1,HO_3,HO_5,HO_6,HB⟩:=hrel;have hl5_1:=(Kd.R_reads' HO_5.1).1;rw [hl5_1] at HO_5
      (try simp only [hl5_1])
      (try simp only [hl5_1] at HO_3)
      (try simp only [hl5_1] at HO_6)
      cases gk with
      |zero=>exact absurd HA.1 (by simp [impl_powers.l0])
      |succ k1=>
       have H:=HA.1;clear HA;simp only [impl_powers.l0] at H
       by_cases c25:x24_1<a0
       ·rw [if_pos c25] at H;have c25b0:decide (x24_1<a0)=true:=decide_eq_true c25;clear c25;replace H:=qOb H;obtain⟨t383,A260,H⟩:=H;replace H:(if x6_1.length<5864062014805 then (if 0≤(wrap64 (ji3 - 1)) then (if (wrap64 (ji3 - 1))<(x5_1.length:Int) then (if 0<(x5_1.length:Int) then (impl_powers.l1 k1 t370 ji3 ((hsh x5_1 (wrap64 (ji3 - 1))).set (0:Int).toNat 0) (x6_1 ++ [t383]) (rd x5_1 (wrap64 (ji3 - 1))) a0 x24_1 (x5_1.length:Int) 0) else (none)) else (none)) else (none)) else (none))=some r:=H;have A26:=qAm A260;clear A260
        by_cases c27:x6_1.length<5864062014805
        ·rw [if_pos c27] at H;have LMc27:=qAm c27;clear c27;obtain⟨y386,hy386⟩:∃y_:List (List Int),y_=(x6_1 ++ [t383]):=⟨_,rfl⟩
         replace H:(if 0≤(wrap64 (ji3 - 1)) then (if (wrap64 (ji3 - 1))<(x5_1.length:Int) then (if 0<(x5_1.length:Int) then (impl_powers.l1 k1 t370 ji3 ((hsh x5_1 (wrap64 (ji3 - 1))).set (0:Int).toNat 0) y386 (rd x5_1 (wrap64 (ji3 - 1))) a0 x24_1 (x5_1.length:Int) 0) else (none)) else (none)) else (none))=some r:=by first|(rw [hy386];with_reducible exact H)|(have H2_:=(Option.bind_some _ _).symm.trans H;rw [hy386];with_reducible exact H2_)|(have H2_:=(Option.bind_some _ _).symm.trans H;with_reducible exact H2_)|with_reducible exact H|(rw [hy386];exact H)|exact H
         have Ny386:=qAm hy386;clear hy386;obtain⟨ji28,hji28⟩:∃j_:Int,(wrap64 (ji3 - 1))=j_:=⟨_,rfl⟩
         replace H:(if 0≤(ji28) then (if (ji28)<(x5_1.length:Int) then (if 0<(x5_1.length:Int) then (impl_powers.l1 k1 t370 ji3 ((hsh x5_1 (ji28)).set (0:Int).toNat 0) y386 (rd x5_1 (ji28)) a0 x24_1 (x5_1.length:Int) 0) else (none)) else (none)) else (none))=some r:=by first|(rw [hji28] at H;exact H)|(simp only [hji28] at H ⊢;exact H)
         (try rw [hji28] at A26)
         have hji28w:(IntKind.i64.wrap (ji3 - 1))=ji28:=(i64_w _).trans hji28
         by_cases c29:0≤(ji28)
         ·rw [if_pos c29] at H;have c29b0:decide (0≤(ji28))=true:=decide_eq_true c29;clear c29
          by_cases c30:(ji28)<(x5_1.length:Int)
          ·rw [if_pos c30] at H;have c30b0:decide ((ji28)<(x5_1.length:Int))=true:=decide_eq_true c30;clear c30
           by_cases c31:0<(x5_1.length:Int)
           ·rw [if_pos c31] at H;have c31b0:decide (0<(x5_1.length:Int))=true:=decide_eq_true c31;have c31b1:decide (0<x5_1.length)=true:=decide_eq_true (by omega);clear c31;obtain⟨y390,hy390⟩:∃y_:List Int,y_=(hsh x5_1 (ji28)):=⟨_,rfl⟩
            replace H:(impl_powers.l1 k1 t370 ji3 (y390.set (0:Int).toNat 0) y386 (rd x5_1 (ji28)) a0 x24_1 (x5_1.length:Int) 0)=some r:=by first|(rw [hy390];with_reducible exact H)|(have H2_:=(Option.bind_some _ _).symm.trans H;rw [hy390];with_reducible exact H2_)|(have H2_:=(Option.bind_some _ _).symm.trans H;with_reducible exact H2_)|with_reducible exact H|(rw [hy390];exact H)|exact H
            have Ny390:=qAm hy390;clear hy390;obtain⟨y391,hy391⟩:∃y_:List Int,y_=(y390.set (0:Int).toNat 0):=⟨_,rfl⟩
            replace H:(impl_powers.l1 k1 t370 ji3 y391 y386 (rd x5_1 (ji28)) a0 x24_1 (x5_1.length:Int) 0)=some r:=by first|(rw [hy391];with_reducible exact H)|(have H2_:=(Option.bind_some _ _).symm.trans H;rw [hy391];with_reducible exact H2_)|(have H2_:=(Option.bind_some _ _).symm.trans H;with_reducible exact H2_)|with_reducible exact H|(rw [hy391];exact H)|exact H
            have Ny391:=qAm hy391;clear hy391;have H':=qAm H;clear H;go_wp2_with (first|((with_reducible refine gate_callee (f:=141) rfl ?_);refine goesL_ (some 28) rfl rfl Try.func141 (by kernel_rfl) rfl #[.slice (some ⟨go7,0,none⟩) x5_1.length co7] rfl qB90 ?_;(with_reducible refine(slices_Clone_int64_int64.calls _ _ x5_1 t383 _ ?side1 ?side2 A26.1).mono ?_);(case side1=>repeat(first|exact(Kd.R_reads' HO_5.1).2.2|(with_reducible refine Kd.C_alloc ?_ _)|(with_reducible refine Kd.C_drewN ?_ _)|(with_reducible refine Kd.C_drew ?_)));(case side2=>exact(Kd.R_reads' HO_5.1).2.1);rintro e w34 ⟨v384,rfl,ho0,hb⟩;refine⟨_,rfl,?_⟩;have n0_:=qAm (Kd.R_elder' qB170 (Kd.R_base ho0) hb);have n1_:=qAm (Kd.R_elder' qB171 (Kd.R_base ho0) hb);have n2_:=qAm (Kd.N_elder' qB174 (Kd.R_base ho0) hb);have n3_:=qAm (Kd.R_lower (Kd.R_new' (Kd.R_new' (Kd.R_newM (M:=fun k_=>(w.heap.size≤k_)) ho0 (below_size qB95) (fun k_ h_=>h_)) (Kd.R_lt qB170)) (Kd.R_lt qB171)) (below_size qB95));have n4_:=qAm (below_step qB95 hb);clear HO_3;clear HO_5;clear HO_6;clear HB;have HO_3:=n0_;have HO_5:=n1_;have HO_6:=n2_;have HO385:=n3_;have HB:=n4_;clear n0_ n1_ n2_ n3_ n4_;(try clear hb);(try clear hb2);(try clear hk);(try clear hi);(try clear ho0);obtain⟨Ao36,co36,eo36⟩:=Kd.R_slice HO385.1;subst eo36)|((with_reducible refine gate_builtin (b:=.append) (xs:=#[.tmp 26,.tmp 29]) rfl ?_);at_builtin;refine Kd.N_append (Kd.slice 2 (Kd.int .i64)) (w0:=w) w.heap.size rfl (.tmp 26) (.tmp 29) 57 22 (.slice none 0 0) 24 rfl Try.underlying57 info22 rfl (by decide) (by omega) u6 x6_1 t383 [.slice Ao36 t383.length co36] (fun k_=>(w.heap.size≤k_)∧some k_≠(.slice Ao18 t370.length co18:Value).ownBlock∧some k_≠(.slice (some ⟨go7,0,none⟩) x5_1.length co7:Value).ownBlock) (fun k_=>((fun k_=>(w.heap.size≤k_)∧some k_≠(.slice Ao18 t370.length co18:Value).ownBlock∧some k_≠(.slice (some ⟨go7,0,none⟩) x5_1.length co7:Value).ownBlock)) k_∧some k_≠(u6:Value).ownBlock) rfl rfl ?aP (fun _ hk=>hk) ?aF ?aO ?aB ?aS ?aL ?_;(case aP=>exact(Kd.FK_slice_mk (Kd.R_reads' (Kd.R_mono (ok':=(fun k_=>((fun k_=>(w.heap.size≤k_)∧some k_≠(.slice Ao18 t370.length co18:Value).ownBlock∧some k_≠(.slice (some ⟨go7,0,none⟩) x5_1.length co7:Value).ownBlock)) k_∧some k_≠(u6:Value).ownBlock)) (Kd.R_apart' (HO385.1) (Kd.N_typed HO_6.1) (by decide)) (fun k_ hk=>⟨⟨hk.1.1.1.1,⟨hk.1.1.2,hk.1.2⟩⟩,hk.2⟩))).2.1 (Kd.R_F (Kd.R_mono (ok':=(fun k_=>((fun k_=>(w.heap.size≤k_)∧some k_≠(.slice Ao18 t370.length co18:Value).ownBlock∧some k_≠(.slice (some ⟨go7,0,none⟩) x5_1.length co7:Value).ownBlock)) k_∧some k_≠(u6:Value).ownBlock)) (Kd.R_apart' (HO385.1) (Kd.N_typed HO_6.1) (by decide)) (fun k_ hk=>⟨⟨hk.1.1.1.1,⟨hk.1.1.2,hk.1.2⟩⟩,hk.2⟩)))));(case aB=>exact qB95);(case aF=>exact(fun k_ hk=>⟨(Nat.le_trans (below_size qB95) hk),Kd.fresh' (Kd.R_lt qB170) k_ hk,Kd.fresh' (Kd.R_lt qB171) k_ hk⟩));(case aO=>exact(by (with_reducible repeat(first|apply Kd.N_alloc|apply Kd.N_drewN|apply Kd.N_drew));exact Kd.N_mono HO_6.1 (fun _ hk=>⟨hk.1.1,⟨hk.1.2.1,hk.1.2.2⟩⟩)));(case aS=>exact(below_size qB95));(case aL=>have:=LMc27.1;omega);intro v387 w35 ho hb hg hat;rw [← Ny386.1] at ho;have n0_:=qAm (Kd.R_over' qB170 (Kd.N_typed qB174) (by decide) hg);have n1_:=qAm (Kd.R_over' qB171 (Kd.N_typed qB174) (by decide) hg);have n2_:=qAm (hb);have n3_:=qAm (ho);clear HO_3;clear HO_5;clear HB;clear HO_6;clear HO385;have HO_3:=n0_;have HO_5:=n1_;have HB:=n2_;have HO388:=n3_;clear n0_ n1_ n2_ n3_;clear ho hb hg hat;have p389:0≤((ji28):Int):=of_decide_eq_true qB177;have q389:(ji28)<(x5_1.length:Int):=of_decide_eq_true qB177;obtain⟨ad389,e389,hx389_0⟩:=Kd.at_int (Kd.R_reads' HO_5.1).2.2 (ji28) p389 q389;obtain rfl:(⟨go7,0,none⟩:Addr)=ad389:=(by injection e389);(first|simp only [add_plain] at hx389_0|simp only [add_at] at hx389_0|simp only [Addr.add,Nat.zero_add] at hx389_0|skip);replace p389:=eq_true p389;replace q389:=eq_true q389;have n_:=qAm (Kd.R_mono (ok':=(fun k_=>(w.heap.size≤k_)∧some k_≠(.slice Ao18 t370.length co18:Value).ownBlock)) HO_5.1 (fun k_ hk=>⟨hk.1.1,hk.1.2⟩));clear HO_5;have HO_5:=n_;clear n_));have hj0:0≤ji28:=of_decide_eq_true qB177;have hj1:ji28<(x5_1.length:Int):=of_decide_eq_true qB177;have hcl_:x5_1.length≤co7:=by obtain⟨_,_,⟨_,ho_⟩,_⟩:=HO_5.1;rcases ho_ with ⟨h_,_⟩|⟨_,_,_,h_,_,_,h2_,_⟩;(· cases h_);(· injection h_ with _ _ h3_;subst h3_;exact h2_)
            have hj2:(1:Int)≤(x5_1.length:Int):=by omega
            have hj3:ji28≤(co7:Int):=by omega
            have hj4:1≤x5_1.length:=by omega
            have hj5:1≤co7:=by omega
            have hj6:ji28.toNat+1≤x5_1.length:=by omega
            have hj7:ji28.toNat≤co7:=by omega
            have hj8:¬ji28<0:=by omega
            have hj9:¬(co7:Int)<ji28:=by omega
            have hj10:co7≤maxLen:=by obtain⟨_,_,⟨_,ho_⟩,_⟩:=HO_5.1;rcases ho_ with ⟨h_,_⟩|⟨_,_,_,h_,_,_,_,h2_,_⟩;(· cases h_);(· injection h_ with _ _ h3_;subst h3_;exact h2_)
            all_goals
             go_region_law (refine hcp_step rfl (.tmp 37) (.tmp 41) 22 22 rfl 2 Try.underlying22 hcp_size (if co7=1 then some ⟨go7,0,none⟩ else some ⟨go7,1,none⟩) (x5_1.length - 1) (co7 - 1) co7 ji28 go7 co7 2 w.heap.size _ x5_1 qB171 (by simp [Act.eval,Act.put]) (by simp [Act.eval,Act.put]) rfl hj6 (by intro h_;rw [if_neg (by omega)]) ?_;intro w38 HP5_ HG5_);generalize (if co7=1 then some (⟨go7,0,none⟩:Addr) else some ⟨go7,1,none⟩)=dp_;have hg:=HG5_.1;have hp_:Kd.R (Kd.int .i64) 2 w38 w.heap.size (fun k_=>(w.heap.size≤k_)∧some k_≠(.slice Ao18 t370.length co18:Value).ownBlock) (.slice (some ⟨go7,0,none⟩) x5_1.length co7) y390:=(by rw [Ny390.1];exact HP5_.1)
             clear HP5_ HG5_;have n0_:=qAm (Kd.R_after (v:=(.slice (some ⟨go7,0,none⟩) x5_1.length co7)) (v1:=(.slice (some ⟨go7,0,none⟩) x5_1.length co7)) (ok:=(fun k_=>(w.heap.size≤k_))) (by (with_reducible repeat(first|apply Kd.R_alloc|apply Kd.R_drewN|apply Kd.R_drew));exact Kd.R_mono HO_3.1 (fun _ hk=>⟨hk.1.1,hk.1.2⟩)) hg (.inl rfl));have n1_:=qAm (hp_);have n2_:=qAm (Kd.N_afterv (v:=(.slice (some ⟨go7,0,none⟩) x5_1.length co7)) (v1:=(.slice (some ⟨go7,0,none⟩) x5_1.length co7)) (ok:=(fun k_=>(w.heap.size≤k_)∧some k_≠(.slice Ao18 t370.length co18:Value).ownBlock)) (by (with_reducible repeat(first|apply Kd.N_alloc|apply Kd.N_drewN|apply Kd.N_drew));exact Kd.N_mono HO388.1 (fun _ hk=>⟨⟨hk.1,hk.2.1⟩,hk.2.2⟩)) hg (.inl rfl));have n3_:=qAm (pw_below_grown qB95 (some go7) (below_size qB95) hg (fun _ e_=>by injection e_ with e_;subst e_;exact GB7.1));clear HO_3 HO_5 HO388 HB;have HO_3:=n0_;have HO_5:=n1_;have HO388:=n2_;have HB:=n3_;clear n0_ n1_ n2_ n3_ hg hp_;have p33:0≤(0:Int):=(by omega)
             have q33:(0:Int)<((x5_1.length:Int):Int):=of_decide_eq_true qB177;have qi33:(0<x5_1.length)=True:=eq_true (by omega);obtain⟨hx33_0,hf33_0⟩:=Kd.R_celln 0 HO_5.1 (0:Int) p33 q33
             (try rw [show((0:Int)).toNat=0 from rfl] at hx33_0)
             (try simp only [Nat.reduceMul,Nat.zero_mul,Nat.zero_add,Nat.reduceAdd] at hx33_0)
             (try rw [show((0:Int)).toNat=0 from rfl] at hf33_0)
             (try simp only [Nat.reduceMul,Nat.zero_mul,Nat.zero_add,Nat.reduceAdd] at hf33_0)
             replace p33:=eq_true p33;replace q33:=eq_true q33;obtain⟨hy39_,hz39_⟩:=Kd.R_celln 0 HO_5.1 (0:Int) (by omega) (of_decide_eq_true qB177)
             (try simp only [Int.reduceToNat,Int.toNat_zero,Int.toNat_ofNat,Nat.reduceMul,Nat.zero_mul,Nat.zero_add] at hy39_ hz39_)
             (try rw [show((0:Int)).toNat=0 from rfl] at hy39_)
             (try rw [show((0:Int)).toNat=0 from rfl] at hz39_)
             have HP39:=Kd.R_putg HO_5.1 (0:Int) 0;go_wp2_with (first|((with_reducible refine gate_store (t:=2) (p:=44) rfl ?_);refine store_event (t:=2) (p:=44) (v:=?vo_w40) (w1:=(w38.setCell ⟨go7,(0:Int).toNat,none⟩ (.int .i64 0))) ?hg ?ho ?hn ?hr ?_;(case ho=>rfl);(case hg=>rfl);(case hn=>rfl);(case hr=>first|(go_simp;done)|(go_simp;rfl));intro w40 hw;have hg:w38.grownBy w40 (some go7):=(by rw [hw];exact HP39.2);have hp_:Kd.R (Kd.int .i64) 2 w40 w.heap.size (fun k_=>(w.heap.size≤k_)∧some k_≠(.slice Ao18 t370.length co18:Value).ownBlock) (.slice (some ⟨go7,0,none⟩) x5_1.length co7) y391:=(by rw [hw,Ny391.1];exact HP39.1);clear HP39;have n0_:=qAm (Kd.R_after (v:=(.slice (some ⟨go7,0,none⟩) x5_1.length co7)) (v1:=(.slice (some ⟨go7,0,none⟩) x5_1.length co7)) (ok:=(fun k_=>(w.heap.size≤k_))) qB170 hg (.inl rfl));have n1_:=qAm (hp_);have n2_:=qAm (Kd.N_afterv (v:=(.slice (some ⟨go7,0,none⟩) x5_1.length co7)) (v1:=(.slice (some ⟨go7,0,none⟩) x5_1.length co7)) (ok:=(fun k_=>(w.heap.size≤k_)∧some k_≠(.slice Ao18 t370.length co18:Value).ownBlock)) (by (with_reducible repeat(first|apply Kd.N_alloc|apply Kd.N_drewN|apply Kd.N_drew));exact HO388.1) hg (.inl rfl));have n3_:=qAm ((by rw [hw];exact below_set (HB.1) GB7.1:Below w.heap.size w w40));clear HO_3;clear HO_5;clear HO388;clear HB;have HO_3:=n0_;have HO_5:=n1_;have HO388:=n2_;have HB:=n3_;clear n0_ n1_ n2_ n3_;clear hg hw hp_));try simp only [Act.put,qSa,qSc,qSb]
             go_loopg [47] k1 (fun kq v47 w'=>∃(x5_2:List Int) (x47_2:Int),v47=.int .i64 x47_2∧Aside0 (impl_powers.l1 kq t370 ji3 x5_2 y386 (rd x5_1 (ji28)) a0 x24_1 (x5_1.length:Int) x47_2=some r)∧Aside0 (kq≤k1)∧Aside0 (Kd.R (Kd.int .i64) 2 w' w.heap.size (fun k_=>(w.heap.size≤k_)∧some k_≠((.slice (some ⟨go7,0,none⟩) x5_1.length co7):Value).ownBlock) (.slice Ao18 t370.length co18) t370)∧Aside0 (Kd.R (Kd.int .i64) 2 w' w.heap.size (fun k_=>(w.heap.size≤k_)∧some k_≠((.slice Ao18 t370.length co18):Value).ownBlock) (.slice (some ⟨go7,0,none⟩) x5_1.length co7) x5_2)∧Aside0 (Kd.N (Kd.slice 2 (Kd.int .i64)) 22 w' w.heap.size (fun k_=>(w.heap.size≤k_)∧some k_≠((.slice Ao18 t370.length co18):Value).ownBlock∧some k_≠((.slice (some ⟨go7,0,none⟩) x5_1.length co7):Value).ownBlock) v387 y386)∧Aside0 (Below w.heap.size w w'))
             case atStart=>exact⟨(y391),(0),qB178,H',⟨Nat.le_refl _⟩,⟨by (try simp only [hl5_1]);(with_reducible repeat(first|apply Kd.R_alloc|apply Kd.R_drewN|apply Kd.R_drew));exact HO_3.1⟩,⟨by (try simp only [hl5_1]);(with_reducible repeat(first|apply Kd.R_alloc|apply Kd.R_drewN|apply Kd.R_drew));exact HO_5.1⟩,⟨by (try simp only [hl5_1]);(with_reducible repeat(first|apply Kd.N_alloc|apply Kd.N_drewN|apply Kd.N_drew));exact Kd.N_mono HO388.1 (fun _ hk=>⟨hk.1.1,⟨hk.1.2,hk.2⟩⟩)⟩,⟨by repeat(first|(with_reducible first|exact HB.1|apply below_alloc|apply pw_below_drewN|apply below_drew1)|exact HB.1)⟩⟩
             case round=>
              clear H';try clear c1
              try clear c2
              try clear p2
              try clear c3
              try clear p3
              try clear q3
              try clear hx3
              try clear qi3
              try clear hf3
              try clear c4
              try clear c4b0
              try clear c4b1
              try clear c5
              try clear c5b0
              try clear c5b1
              try clear c6
              try clear c6b0
              try clear c6b1
              try clear p6
              try clear p7
              try clear q7
              try clear hx7
              try clear qi7
              try clear hf7
              try clear c8
              try clear c8b0
              try clear c8b1
              try clear c10
              try clear c14
              try clear c25
              try clear c25b0
              try clear c27
              try clear c29
              try clear c29b0
              try clear c30
              try clear c30b0
              try clear c31
              try clear c31b0
              try clear c31b1
              try clear p32
              try clear q32
              try clear hx32
              try clear qi32
              try clear hf32
              try clear p33
              try clear q33
              try clear hx33
              try clear qi33
              try clear hf33
              try clear p38
              try clear q38
              try clear hx38
              try clear hx32_0
              try clear hx33_0
              try clear hx389_0
              try clear hx7_0
              try clear p2
              try clear p32
              try clear p33
              try clear p389
              try clear p6
              try clear p7
              try clear q32
              try clear q33
              try clear q389
              try clear q7
              obtain⟨x5_2,x47_2,rfl,HA,HK2,HO_3,HO_5,HO_6,HB⟩:=hrel;have hl5_2:=(Kd.R_reads' HO_5.1).1;rw [hl5_2] at HO_5
              (try simp only [hl5_2])
              (try simp only [hl5_2] at HO_3)
              (try simp only [hl5_2] at HO_6)
              cases gk with
              |zero=>exact absurd HA.1 (by simp [impl_powers.l1])
              |succ k2=>
               have H:=HA.1;clear HA;simp only [impl_powers.l1] at H
               by_cases c41:x47_2<(x5_1.length:Int)
               ·rw [if_pos c41] at H;have c41b0:decide (x47_2<(x5_1.length:Int))=true:=decide_eq_true c41;clear c41
                by_cases c42:0≤x47_2
                ·rw [if_pos c42] at H;have c42b0:decide (0≤x47_2)=true:=decide_eq_true c42;clear c42
                 by_cases c43:x47_2<(x5_2.length:Int)
                 ·rw [if_pos c43] at H;have c43b0:decide (x47_2<(x5_2.length:Int))=true:=decide_eq_true c43;clear c43
                  by_cases c44:x47_2<(t370.length:Int)
                  ·rw [if_pos c44] at H;have c44b0:decide (x47_2<(t370.length:Int))=true:=decide_eq_true c44;clear c44;obtain⟨y394,hy394⟩:∃y_:List Int,y_=(x5_2.set (x47_2:Int).toNat (wrap64 ((rd x5_2 x47_2) - (wrap64 ((rd x5_1 (ji28))*(rd t370 x47_2)))))):=⟨_,rfl⟩
                   replace H:(impl_powers.l1 k2 t370 ji3 y394 y386 (rd x5_1 (ji28)) a0 x24_1 (x5_1.length:Int) (wrap64 (x47_2+1)))=some r:=by first|(rw [hy394];with_reducible exact H)|(have H2_:=(Option.bind_some _ _).symm.trans H;rw [hy394];with_reducible exact H2_)|(have H2_:=(Option.bind_some _ _).symm.trans H;with_reducible exact H2_)|with_reducible exact H|(rw [hy394];exact H)|exact H
                   have Ny394:=qAm hy394;clear hy394;have H':=qAm H;clear H;try go_wp2
                   have n0_:=qAm (Kd.R_drew HO_3.1);have n1_:=qAm (Kd.R_drew HO_5.1);have n2_:=qAm (Kd.N_drew HO_6.1);have n3_:=qAm (below_drew1 HB.1);clear HO_3 HO_5 HO_6 HB;have HO_3:=n0_;have HO_5:=n1_;have HO_6:=n2_;have HB:=n3_;clear n0_ n1_ n2_ n3_;have p392:0≤(x47_2:Int):=of_decide_eq_true qB177;have q392:x47_2<(x5_2.length:Int):=of_decide_eq_true qB177;obtain⟨ad392,e392,hx392_0⟩:=Kd.at_int (Kd.R_reads' HO_5.1).2.2 x47_2 p392 q392;obtain rfl:(⟨go7,0,none⟩:Addr)=ad392:=(by injection e392)
                   (first|simp only [add_plain] at hx392_0|simp only [add_at] at hx392_0|simp only [Addr.add,Nat.zero_add] at hx392_0|skip)
                   replace p392:=eq_true p392;replace q392:=eq_true q392;have p393:0≤(x47_2:Int):=of_decide_eq_true qB177;have q393:x47_2<(t370.length:Int):=of_decide_eq_true qB177;obtain⟨ad393,e393,hx393_0⟩:=Kd.at_int (Kd.R_reads' HO_3.1).2.2 x47_2 p393 q393;cases e393
                   replace p393:=eq_true p393;replace q393:=eq_true q393;have p45:0≤(x47_2:Int):=of_decide_eq_true qB177;have q45:(x47_2:Int)<((x5_2.length:Int):Int):=of_decide_eq_true qB177;obtain⟨hx45_0,hf45_0⟩:=Kd.R_celln 0 HO_5.1 (x47_2:Int) p45 q45;replace p45:=eq_true p45;replace q45:=eq_true q45;have HP47:=Kd.R_putn HO_5.1 (x47_2:Int) (wrap64 ((rd x5_2 x47_2) - (wrap64 ((rd x5_1 (ji28))*(rd t370 x47_2)))));rw [← Ny394.1] at HP47;have HQ47:=qAm HP47;clear HP47;refine start_ (n:=13) (S:=fun w'=>w'.cell? ⟨go7,(x47_2).toNat,none⟩=some (.int .i64 (rd x5_2 x47_2))∧w'.cell? (ad393.add (x47_2).toNat)=some (.int .i64 (rd t370 x47_2))) (ds:=[12]) #[false,false,false,false,false,false,false,false,false,false,false,false,false] (by kernel_rfl) rfl rfl ⟨hx392_0,hx393_0⟩ (fun hHeld=>?_);refine with_tabW impl_powers.tab17 impl_powers.bits17 (fun HT_ HW_=>?_);generalize wr.drew=w46 at HO_3 HO_5 HO_6 HB HQ47 hf45_0 hx392_0 hx393_0 hx45_0 hHeld ⊢;refine pure_ (i:=0) (N:=some 50) (v:=?_) (a':=?_) #[true,false,false,false,false,false,false,false,false,false,false,false,false] rfl rfl (any_of HT_.1 (by kernel_rfl)) (fun _ _ _ h=>h) (Or.inl ⟨by rfl,?_⟩) ?_ ?_;rotate_left
                   ·intro w';go_simp;with_reducible rfl
                   rotate_left
                   ·simp only [Act.put,qSa,qSb,qSc,i64_w,i32_w];rfl
                   refine pure_ (i:=1) (N:=some 51) (v:=?_) (a':=?_) #[true,true,false,false,false,false,false,false,false,false,false,false,false] rfl rfl (any_of HT_.1 (by kernel_rfl)) (fun _ _ _ h=>h) (Or.inl ⟨by rfl,?_⟩) ?_ ?_;rotate_left
                   ·intro w';go_simp;with_reducible rfl
                   rotate_left
                   ·simp only [Act.put,qSa,qSb,qSc,i64_w,i32_w];rfl
                   refine pure_ (i:=2) (N:=some 52) (v:=?_) (a':=?_) #[true,true,true,false,false,false,false,false,false,false,false,false,false] rfl rfl (any_of HT_.1 (by kernel_rfl)) (fun _ _ _ h=>h) (Or.inl ⟨by rfl,?_⟩) ?_ ?_;rotate_left
                   ·intro w';go_simp;with_reducible rfl
                   rotate_left
                   ·simp only [Act.put,qSa,qSb,qSc,i64_w,i32_w];rfl
                   refine pure_ (i:=4) (N:=some 54) (v:=?_) (a':=?_) #[true,true,true,false,true,false,false,false,false,false,false,false,false] rfl rfl (any_of HT_.1 (by kernel_rfl)) (fun _ _ _ h=>h) (Or.inl ⟨by rfl,?_⟩) ?_ ?_;rotate_left
                   ·intro w';go_simp;with_reducible rfl
                   rotate_left
                   ·simp only [Act.put,qSa,qSb,qSc,i64_w,i32_w];rfl
                   refine pure_ (i:=5) (N:=some 55) (v:=?_) (a':=?_) #[true,true,true,false,true,true,false,false,false,false,false,false,false] rfl rfl (any_of HT_.1 (by kernel_rfl)) (fun _ _ _ h=>h) (Or.inl ⟨by rfl,?_⟩) ?_ ?_;rotate_left
                   ·intro w';go_simp;with_reducible rfl
                   rotate_left
                   ·simp only [Act.put,qSa,qSb,qSc,i64_w,i32_w];rfl
                   refine pure_ (i:=6) (N:=some 56) (v:=?_) (a':=?_) #[true,true,true,false,true,true,true,false,false,false,false,false,false] rfl rfl (any_of HT_.1 (by kernel_rfl)) (fun _ _ _ h=>h) (Or.inl ⟨by rfl,?_⟩) ?_ ?_;rotate_left
                   ·intro w';go_simp;with_reducible rfl
                   rotate_left
                   ·simp only [Act.put,qSa,qSb,qSc,i64_w,i32_w];rfl
                   refine pure_ (i:=7) (N:=some 57) (v:=?_) (a':=?_) #[true,true,true,false,true,true,true,true,false,false,false,false,false] rfl rfl (any_of HT_.1 (by kernel_rfl)) (fun _ _ _ h=>h) (Or.inl ⟨by rfl,?_⟩) ?_ ?_;rotate_left
                   ·intro w';go_simp;with_reducible rfl
                   rotate_left
                   ·simp only [Act.put,qSa,qSb,qSc,i64_w,i32_w];rfl
                   refine take_ (i:=3) (N:=some 53) (v:=?_) (a':=?_) #[true,true,true,true,true,true,true,true,false,false,false,false,false] rfl rfl (take_ofW HT_.1 HW_.1 (by kernel_rfl)) (fun _ _ _ h=>h) (Or.inl ⟨by rfl,?_⟩) hHeld ?_ ?_;rotate_left
                   ·rintro w' ⟨s0,s1⟩;go_simp;with_reducible rfl
                   rotate_left
                   ·simp only [Act.put,qSa,qSb,qSc,i64_w,i32_w];rfl
                   refine take_ (i:=8) (N:=some 58) (v:=?_) (a':=?_) #[true,true,true,true,true,true,true,true,true,false,false,false,false] rfl rfl (take_ofW HT_.1 HW_.1 (by kernel_rfl)) (fun _ _ _ h=>h) (Or.inl ⟨by rfl,?_⟩) hHeld ?_ ?_;rotate_left
                   ·rintro w' ⟨s0,s1⟩;go_simp;with_reducible rfl
                   rotate_left
                   ·simp only [Act.put,qSa,qSb,qSc,i64_w,i32_w];rfl
                   refine pure_ (i:=9) (N:=some 59) (v:=?_) (a':=?_) #[true,true,true,true,true,true,true,true,true,true,false,false,false] rfl rfl (any_of HT_.1 (by kernel_rfl)) (fun _ _ _ h=>h) (Or.inl ⟨by rfl,?_⟩) ?_ ?_;rotate_left
                   ·intro w';go_simp;with_reducible rfl
                   rotate_left
                   ·simp only [Act.put,qSa,qSb,qSc,i64_w,i32_w];rfl
                   refine pure_ (i:=10) (N:=some 60) (v:=?_) (a':=?_) #[true,true,true,true,true,true,true,true,true,true,true,false,false] rfl rfl (any_of HT_.1 (by kernel_rfl)) (fun _ _ _ h=>h) (Or.inl ⟨by rfl,?_⟩) ?_ ?_;rotate_left
                   ·intro w';go_simp;with_reducible rfl
                   rotate_left
                   ·simp only [Act.put,qSa,qSb,qSc,i64_w,i32_w];rfl
                   refine pure_ (i:=11) (N:=some 61) (v:=?_) (a':=?_) #[true,true,true,true,true,true,true,true,true,true,true,true,false] rfl rfl (any_of HT_.1 (by kernel_rfl)) (fun _ _ _ h=>h) (Or.inl ⟨by rfl,?_⟩) ?_ ?_;rotate_left
                   ·intro w';go_simp;with_reducible rfl
                   rotate_left
                   ·simp only [Act.put,qSa,qSb,qSc,i64_w,i32_w];rfl
                   refine last_ (i:=12) (N:=none) #[true,true,true,true,true,true,true,true,true,true,true,true,true] rfl rfl (one_of HT_.1 (by kernel_rfl)) (by decide) (fun K hK=>?_);refine skip_ (w1:=?_) (by rfl) rfl ?_ ?_;rotate_left
                   ·go_simp;rfl
                   refine hK.out _ _ ?_;clear hK K;refine done_ (done_of HT_.1 (by kernel_rfl)) ?_;try go_wp2
                   (try simp only [← hl5_2])
                   (first|go_roundg k2|((try simp only [add_plain] at *);go_roundg k2))
                   case measure=>have:=HK1.1;have:=HK2.1;omega
                   case rel=>exact⟨(y394),(wrap64 (x47_2+1)),qB178,H',⟨by have:=HK1.1;have:=HK2.1;omega⟩,⟨by (try simp only [hl5_1]);(try simp only [hl5_2]);(with_reducible repeat(first|apply Kd.R_alloc|apply Kd.R_drewN|apply Kd.R_drew));exact Kd.R_mono (Kd.R_far (p:=⟨go7,(x47_2:Int).toNat,none⟩) (Kd.R_mono HO_3.1 (fun k_ hk=>(⟨hk,fun e_=>hk.2 (by rw [e_];rfl)⟩:_∧k_≠go7))) (fun _ hk=>hk.2) (.int .i64 (wrap64 ((rd x5_2 x47_2) - (wrap64 ((rd x5_1 (ji28))*(rd t370 x47_2))))))) (fun _ hk=>⟨hk.1.1,hk.1.2⟩)⟩,⟨by (try simp only [hl5_1]);(try simp only [hl5_2]);(with_reducible repeat(first|apply Kd.R_alloc|apply Kd.R_drewN|apply Kd.R_drew));exact HQ47.1⟩,⟨by (try simp only [hl5_1]);(try simp only [hl5_2]);(with_reducible repeat(first|apply Kd.N_alloc|apply Kd.N_drewN|apply Kd.N_drew));exact Kd.N_mono (Kd.N_far (p:=⟨go7,(x47_2:Int).toNat,none⟩) (Kd.N_mono HO_6.1 (fun k_ hk=>(⟨hk,fun e_=>hk.2.2 (by rw [e_];rfl)⟩:_∧k_≠go7))) (fun _ hk=>hk.2) (.int .i64 (wrap64 ((rd x5_2 x47_2) - (wrap64 ((rd x5_1 (ji28))*(rd t370 x47_2))))))) (fun _ hk=>⟨hk.1.1,⟨hk.1.2.1,hk.1.2.2⟩⟩)⟩,⟨by repeat(first|(with_reducible first|exact HB.1|apply below_alloc|apply pw_below_drewN|apply below_drew1|refine below_set ?_ GB7.1)|exact HB.1)⟩⟩
                  ·rw [if_neg c44] at H;exact absurd H (by simp)
                 ·rw [if_neg c43] at H;exact absurd H (by simp)
                ·rw [if_neg c42] at H;exact absurd H (by simp)
               ·rw [if_neg c41] at H;have c41b0:decide (x47_2<(x5_1.length:Int))=false:=decide_eq_false c41;have c41b0_0:=c41b0
                (try rw [hl5_1] at c41b0_0)
                have c41b0_1:=c41b0
                (try rw [hl5_2] at c41b0_1)
                clear c41;have H':=qAm H;clear H;go_wp2
                (try simp only [← hl5_1,← hl5_2])
                (first|go_roundg k2|((try simp only [add_plain] at *);go_roundg k2))
                case measure=>have:=HK1.1;have:=HK2.1;omega
                case rel=>exact⟨(x5_2),(y386),(wrap64 (x24_1+1)),qB178,H',⟨by have:=HK1.1;have:=HK2.1;omega⟩,⟨by (try simp only [hl5_1]);(try simp only [hl5_2]);(with_reducible repeat(first|apply Kd.R_alloc|apply Kd.R_drewN|apply Kd.R_drew));exact HO_3.1⟩,⟨by (try simp only [hl5_1]);(try simp only [hl5_2]);(with_reducible repeat(first|apply Kd.R_alloc|apply Kd.R_drewN|apply Kd.R_drew));exact HO_5.1⟩,⟨by (try simp only [hl5_1]);(try simp only [hl5_2]);(with_reducible repeat(first|apply Kd.N_alloc|apply Kd.N_drewN|apply Kd.N_drew));exact HO_6.1⟩,⟨by repeat(first|(with_reducible first|exact HB.1|apply below_alloc|apply pw_below_drewN|apply below_drew1)|exact HB.1)⟩⟩
           ·rw [if_neg c31] at H;exact absurd H (by simp)
          ·rw [if_neg c30] at H;exact absurd H (by simp)
         ·rw [if_neg c29] at H;exact absurd H (by simp)
        ·rw [if_neg c27] at H;exact absurd H (by simp)
       ·rw [if_neg c25] at H;have c25b0:decide (x24_1<a0)=false:=decide_eq_false c25;clear c25;obtain rfl:=Option.some.inj H;go_wp2;go_ret;exact⟨_,by first|rfl|(simp [errW_none,errW_some] <;> rfl)|(simp only [← hji3];first|rfl|(simp [errW_none,errW_some] <;> rfl))|(simp [*,errW_none,errW_some] <;> rfl),by (with_reducible repeat(first|apply Kd.N_alloc|apply Kd.N_drewN|apply Kd.N_drew));exact Kd.N_mono HO_6.1 (fun _ hk=>hk.1),by repeat(first|(with_reducible first|exact HB.1|apply below_alloc|apply pw_below_drewN|apply below_drew1)|exact HB.1)⟩
   ·rw [if_neg c6] at H;exact absurd H (by simp)
  ·rw [if_neg c5] at H;exact absurd H (by simp)
 ·rw [if_neg c4] at H;exact absurd H (by simp)

/-! ### impl_fieldOf: function 135 -/
def impl_fieldOf.f (k:Nat) (a0:Int):Option (Int×Int×(List (List Int))):=(impl_powers.f k a0).bind fun t396=>(if 0<(t396.length:Int) then (some (a0,((rd_L1 t396 0).length:Int),t396)) else (none))
theorem impl_fieldOf.mono:∀a0 k,LeO (impl_fieldOf.f k a0) (impl_fieldOf.f (k+1) a0):=by
 intro a0 k;unfold impl_fieldOf.f;repeat' first
   |(with_reducible exact impl_powers.mono _ _)
   |(with_reducible exact LeO.refl _)
   |(with_reducible exact LeO.none _)
   |(with_reducible refine LeO.ite ?_ ?_)
   |(with_reducible refine LeO.bind ?_ (fun _=>?_))
   |exact impl_powers.mono _ _
   |exact LeO.none _
   |refine LeO.ite ?_ ?_
   |refine LeO.bind ?_ (fun _=>?_)
set_option maxHeartbeats 8000000 in
set_option maxRecDepth 100000 in
theorem impl_fieldOf.calls (k:Nat) (a0:Int) (r1:Int) (r2:Int) (r3:List (List Int)) (w:World) (h:impl_fieldOf.f k a0=some (r1,r2,r3)):
  Calls Try.prog 135 #[.int .i64 a0] w fun e w'=>∃v2_:Value,e=.returned (.agg #[.int .i64 r1,.int .i64 r2,v2_])∧Kd.N (Kd.slice 2 (Kd.int .i64)) 22 w' w.heap.size (fun k_=>(w.heap.size≤k_)) v2_ r3∧Below w.heap.size w w':=by
 have hu131:=Try.underlying131;have HB:=qAm (Below.refl w.heap.size w);have H:((impl_powers.f k a0).bind fun t396=>(if 0<(t396.length:Int) then (some (a0,((rd_L1 t396 0).length:Int),t396)) else (none)))=some (r1,r2,r3):=h;clear h;replace H:=qOb H;obtain⟨t396,A20,H⟩:=H;replace H:(if 0<(t396.length:Int) then (some (a0,((rd_L1 t396 0).length:Int),t396)) else (none))=some (r1,r2,r3):=H;have A2:=qAm A20;clear A20
 by_cases c3:0<(t396.length:Int)
 ·rw [if_pos c3] at H;have c3b0:decide (0<(t396.length:Int))=true:=decide_eq_true c3;have c3b1:decide (0<t396.length)=true:=decide_eq_true (by omega);clear c3;simp only [Option.some.injEq,Prod.mk.injEq] at H;obtain⟨rfl,rfl,rfl⟩:=H;go_enter Try.func135,Try.ntmps135;go_wp2_with (first|((with_reducible refine gate_dst (N:=2) rfl ?_);refine box_event ?hg (N:=2) ?hd (cs:=#[.int .i64 0,.int .i64 0,.slice none 0 0]) (t:=131) ?hr ?_;(case hd=>rfl);(case hg=>rfl);(case hr=>first|(go_simp;done)|(go_simp;rfl));intro gb395 hg w4 hbox hb;have n0_:=qAm (below_step qB95 hb);have n1_:=qAm (hbox);have n2_:=qAm ((by rw [hg];exact(below_size qB95):w.heap.size≤gb395));have n3_:=qAm ((by rw [hg];exact(below_size qB95):w.heap.size≤gb395));clear HB;have HB:=n0_;have BK395:=n1_;have GW395:=n2_;have GE395:=n3_;clear n0_ n1_ n2_ n3_;clear hb hbox hg)|((with_reducible refine gate_callee (f:=142) rfl ?_);refine goesL_ (some 5) rfl rfl Try.func142 (by kernel_rfl) rfl #[.int .i64 a0] rfl qB90 ?_;(with_reducible refine(impl_powers.calls k a0 t396 _ A2.1).mono ?_);rintro e w5 ⟨v397,rfl,ho0,hb⟩;refine⟨_,rfl,?_⟩;have n0_:=qAm (Kd.N_lower (Kd.N_mono (ok':=fun k_=>(w.heap.size≤k_)∧k_≠gb395) ho0 (fun k_ hk_=>⟨(Nat.le_trans (below_size qB66) hk_),(Kd.freshB (g:=gb395) (o:=.cells #[.int .i64 0,.int .i64 0,.slice none 0 0] 131 (0,0)) qB130 k_ hk_)⟩)) (below_size qB66));have n1_:=qAm (blk_below (g:=gb395) (o:=.cells #[.int .i64 0,.int .i64 0,.slice none 0 0] 131 (0,0)) qB130 hb);have n2_:=qAm (below_step qB66 hb);clear BK395;clear HB;have HO398:=n0_;have BK395:=n1_;have HB:=n2_;clear n0_ n1_ n2_;(try clear hb);(try clear hb2);(try clear hk);(try clear hi);(try clear ho0);obtain⟨Ao6,co6,eo6⟩:=Kd.N_slice HO398.1;subst eo6;have p399:0≤(0:Int):=(by omega);have q399:0<(t396.length:Int):=of_decide_eq_true qB177;obtain⟨ad399,A399_0,c399_0,e399,hx399_0,hl399_0,hi399_0⟩:=at_L1 (Kd.N_reads' HO398.1).2.2 0 p399 q399;cases e399;obtain⟨ce399,hce399,hMe399,hcc399⟩:=Kd.N_get HO398.1 [] 0 p399 (by first|exact q399|exact of_decide_eq_true qB177|(have e_:=(Kd.N_reads' HO398.1).1;omega));obtain⟨ua399_0,uc399_0,rfl,ul399_0,ge399_0⟩:=Kd.FK_slice_open hMe399;have hv399_0:=hcc399 0 _ rfl;rw [Nat.add_zero,show((Kd.slice 2 (Kd.int .i64))).sz=1 from rfl,Nat.mul_one] at hv399_0;replace hv399_0:=Option.some.inj (hv399_0.symm.trans hx399_0);injection hv399_0 with hva_ hvn_ hvc_;rw [hva_] at ge399_0;rw [hvc_] at ul399_0;have HL399_0:=qAm (show Kd.V (Kd.int .i64) 2 _ w.heap.size _ _ (rd_L1 t396 0) from Kd.V_mk ul399_0 ge399_0);clear hva_ hvn_ hvc_ ge399_0 ul399_0;clear hcc399 hce399;have qi399:(0<t396.length)=True:=eq_true (by omega);(try rw [show((0:Int)).toNat=0 from rfl] at hx399_0);(try rw [Addr.add_zero'] at hx399_0);have HR399_0:=qAm hi399_0;have HC399_0:=qAm hl399_0;clear hi399_0 hl399_0;replace p399:=eq_true p399;replace q399:=eq_true q399;have hcz7_0:w5.cell? ⟨gb395,0,none⟩=some (.int .i64 0):=(blk_cell BK395.1 0).trans rfl;have hcz7_1:w5.cell? ⟨gb395,1,none⟩=some (.int .i64 0):=(blk_cell BK395.1 1).trans rfl;have hcz7_2:w5.cell? ⟨gb395,2,none⟩=some (.slice none 0 0):=(blk_cell BK395.1 2).trans rfl;have hfz7_0:=blk_frozen BK395.1 0;have hfz7_1:=blk_frozen BK395.1 1;have hfz7_2:=blk_frozen BK395.1 2));refine bodyPost_ret (results_cell_row rfl _ _ gb395 131 #[.int .i64 a0,.int .i64 ((rd_L1 t396 0).length:Int),.slice (some ad399) t396.length co6] (0,0) _ rfl (by (with_reducible repeat(first|refine blk_drewN ?_ _|refine blk_drew ?_|refine blk_alloc ?_ _));refine blk_put (cs:=#[.int .i64 a0,.int .i64 ((rd_L1 t396 0).length:Int),.slice none 0 0]) ?_ 2 _ rfl;(with_reducible repeat(first|refine blk_drewN ?_ _|refine blk_drew ?_|refine blk_alloc ?_ _));refine blk_put (cs:=#[.int .i64 a0,.int .i64 0,.slice none 0 0]) ?_ 1 _ rfl;(with_reducible repeat(first|refine blk_drewN ?_ _|refine blk_drew ?_|refine blk_alloc ?_ _));refine blk_put (cs:=#[.int .i64 0,.int .i64 0,.slice none 0 0]) ?_ 0 _ rfl;(with_reducible repeat(first|refine blk_drewN ?_ _|refine blk_drew ?_|refine blk_alloc ?_ _));exact BK395.1) Try.underlying131 rfl (by kernel_rfl)) rfl ?_;exact⟨_,by first|rfl|(simp [errW_none,errW_some] <;> rfl)|(simp [*,errW_none,errW_some] <;> rfl),by (with_reducible repeat(first|apply Kd.N_alloc|apply Kd.N_drewN|apply Kd.N_drew));exact Kd.N_mono (Kd.N_far (p:=⟨gb395,2,none⟩) (Kd.N_far (p:=⟨gb395,1,none⟩) (Kd.N_far (p:=⟨gb395,0,none⟩) (Kd.N_mono HO398.1 (fun k_ hk=>(⟨hk,hk.2⟩:_∧k_≠gb395))) (fun _ hk=>hk.2) (.int .i64 a0)) (fun _ hk=>hk.2) (.int .i64 ((rd_L1 t396 0).length:Int))) (fun _ hk=>hk.2) (.slice (some ad399) t396.length co6)) (fun _ hk=>hk.1.1),by repeat(first|(with_reducible first|exact HB.1|apply below_alloc|apply pw_below_drewN|apply below_drew1|refine below_set ?_ GE395.1)|exact HB.1)⟩
 ·rw [if_neg c3] at H;exact absurd H (by simp)

end Go.Proofs.Ytefhabkikaadiaa.PFnExactOrthogonalSum
