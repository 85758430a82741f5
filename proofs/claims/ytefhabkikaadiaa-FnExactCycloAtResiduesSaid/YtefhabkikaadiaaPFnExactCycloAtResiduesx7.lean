/- The functions that the law reaches, as plain functions, each with the proof that the program comes to it; no condition. Written by a program of this session (wip/mp.py) over the printing of the kit; what is marked HAND is told by hand. -/
import Derived.Test.YtefhabkikaadiaaPFnExactCycloAtResiduesx0
import Derived.Test.YtefhabkikaadiaaPFnExactCycloAtResiduesx6
namespace Go.Proofs.Ytefhabkikaadiaa.PFnExactCycloAtResidues
open Go.RowKit Go.Proofs.YtefhabkikaadiaaW.PrintWords Go.Proofs.YtefhabkikaadiaaW.PrintLast Go.Proofs.YtefhabkikaadiaaW.PrintMore
attribute [local go_sem] max2_int min2_int max_two min_two max_three min_three max_four min_four   -- for this text's walks alone
set_option linter.unusedVariables false
set_option linter.unusedSimpArgs false

/-! ### impl_quotient: function 133 -/
mutual
def impl_quotient.l0:Nat→List Int→List Int→List Int→Int→Option (List Int)
  |0,_,_,_,_=>none
  |k+1,x0,x1,x5,x6=>if x6≥0 then (if 0≤(wrap64 ((wrap64 (x6+(x1.length:Int))) - 1)) then (if (wrap64 ((wrap64 (x6+(x1.length:Int))) - 1))<(x0.length:Int) then (if 0≤x6 then (if x6<(x5.length:Int) then (impl_quotient.l1 k x0 x1 (x5.set (x6:Int).toNat (rd x0 (wrap64 ((wrap64 (x6+(x1.length:Int))) - 1)))) x6 x1 (x1.length:Int) 0) else (none)) else (none)) else (none)) else (none)) else (some x5)
def impl_quotient.l1:Nat→List Int→List Int→List Int→Int→List Int→Int→Int→Option (List Int)
  |0,_,_,_,_,_,_,_=>none
  |k+1,x0,x1,x5,x6,x36,x37,x38=>if x38<x37 then (if 0≤x38 then (if x38<(x36.length:Int) then (if 0≤(wrap64 (x6+x38)) then (if (wrap64 (x6+x38))<(x0.length:Int) then (if 0≤x6 then (if x6<(x5.length:Int) then (impl_quotient.l1 k (x0.set ((wrap64 (x6+x38)):Int).toNat (wrap64 ((rd x0 (wrap64 (x6+x38))) - (wrap64 ((rd x5 x6)*(rd x36 x38)))))) x1 x5 x6 x36 x37 (wrap64 (x38+1))) else (none)) else (none)) else (none)) else (none)) else (none)) else (none)) else (impl_quotient.l0 k x0 x1 x5 (wrap64 (x6 - 1)))
end
def impl_quotient.f (k:Nat) (l0:List Int) (l1:List Int):Option (List Int):=(slices_Clone_int64_int64.f l0).bind fun t216=>(if 0≤(wrap64 ((wrap64 ((t216.length:Int) - (l1.length:Int)))+1)) then (if (wrap64 ((wrap64 ((t216.length:Int) - (l1.length:Int)))+1):Int).toNat≤35184372088832 then ((some (List.replicate (wrap64 ((wrap64 ((t216.length:Int) - (l1.length:Int)))+1):Int).toNat 0:List Int)).bind fun y219=>(impl_quotient.l0 k t216 l1 y219 (wrap64 ((y219.length:Int) - 1)))) else (none)) else (none))
theorem impl_quotient.mono_l:∀k,(∀y0 y1 y2 y3,LeO (impl_quotient.l0 k y0 y1 y2 y3) (impl_quotient.l0 (k+1) y0 y1 y2 y3))∧(∀y0 y1 y2 y3 y4 y5 y6,LeO (impl_quotient.l1 k y0 y1 y2 y3 y4 y5 y6) (impl_quotient.l1 (k+1) y0 y1 y2 y3 y4 y5 y6))
  |0=>⟨fun _ _ _ _ r h=>by simp [impl_quotient.l0] at h,fun _ _ _ _ _ _ _ r h=>by simp [impl_quotient.l1] at h⟩
  |k+1=>by
    obtain⟨ih0,ih1⟩:=impl_quotient.mono_l k;refine⟨?_,?_⟩
    · intro y0 y1 y2 y3
      unfold impl_quotient.l0;repeat' first
      |(with_reducible exact ih0 _ _ _ _)
      |(with_reducible exact ih1 _ _ _ _ _ _ _)
      |(with_reducible exact LeO.refl _)
      |(with_reducible exact LeO.none _)
      |(with_reducible refine LeO.ite ?_ ?_)
      |(with_reducible refine LeO.bind ?_ (fun _=>?_))
      |exact ih0 _ _ _ _
      |exact ih1 _ _ _ _ _ _ _
      |exact LeO.none _
      |refine LeO.ite ?_ ?_
      |refine LeO.bind ?_ (fun _=>?_)
    · intro y0 y1 y2 y3 y4 y5 y6
      unfold impl_quotient.l1;repeat' first
      |(with_reducible exact ih0 _ _ _ _)
      |(with_reducible exact ih1 _ _ _ _ _ _ _)
      |(with_reducible exact LeO.refl _)
      |(with_reducible exact LeO.none _)
      |(with_reducible refine LeO.ite ?_ ?_)
      |(with_reducible refine LeO.bind ?_ (fun _=>?_))
      |exact ih0 _ _ _ _
      |exact ih1 _ _ _ _ _ _ _
      |exact LeO.none _
      |refine LeO.ite ?_ ?_
      |refine LeO.bind ?_ (fun _=>?_)
theorem impl_quotient.mono:∀a0 a1 k,LeO (impl_quotient.f k a0 a1) (impl_quotient.f (k+1) a0 a1):=by
  intro a0 a1 k;obtain⟨ih0,ih1⟩:=impl_quotient.mono_l k;unfold impl_quotient.f;repeat' first
      |(with_reducible exact ih0 _ _ _ _)
      |(with_reducible exact ih1 _ _ _ _ _ _ _)
      |(with_reducible exact LeO.refl _)
      |(with_reducible exact LeO.none _)
      |(with_reducible refine LeO.ite ?_ ?_)
      |(with_reducible refine LeO.bind ?_ (fun _=>?_))
      |exact ih0 _ _ _ _
      |exact ih1 _ _ _ _ _ _ _
      |exact LeO.none _
      |refine LeO.ite ?_ ?_
      |refine LeO.bind ?_ (fun _=>?_)
def impl_quotient.T10:Bool×List (List Nat×List Nat):=(true,[([],[]),([],[]),([],[]),([1,2],[1,2]),([0,3],[0,3]),([4],[4]),([],[]),([],[]),([6,7],[6,7]),([8],[8]),([],[]),([9,10],[9,10]),([5,11],[5,11]),([0,3,0,1,2,3,4,5,6,7,8,9,10,11,12],[0,3]),([13,12,0,1,2,3,4,5,6,7,8,9,10,11,12],[12,13])])
def impl_quotient.B10:List Nat:=[0,0,0,6,15,31,0,0,192,448,0,1984,4095,8191,16383]
theorem impl_quotient.tab10:rtab .any (opsOf Try.f133 10)=impl_quotient.T10:=by kernel_rfl
theorem impl_quotient.bits10:waitsOk impl_quotient.T10.2 impl_quotient.B10=true:=by kernel_rfl
set_option maxHeartbeats 8000000 in
set_option maxRecDepth 100000 in
theorem impl_quotient.calls (k:Nat) (A0:Option Addr) (c0:Nat) (l0:List Int) (A1:Option Addr) (c1:Nat) (l1:List Int) (r:List Int) (w:World) (hr0:Kd.C (Kd.int .i64) w A0 l0.length l0) (hc0:l0.length≤c0) (hr1:Kd.C (Kd.int .i64) w A1 l1.length l1) (hc1:l1.length≤c1) (h:impl_quotient.f k l0 l1=some r):
    Calls Try.prog 133 #[.slice A0 l0.length c0,.slice A1 l1.length c1] w fun e w'=>∃v0_:Value,e=.returned (v0_)∧Kd.R (Kd.int .i64) 2 w' w.heap.size (fun _=>True) v0_ r∧Below w.heap.size w w':=by
  have HR0:=qAm hr0;have HC0:=qAm hc0;clear hr0 hc0;have HR1:=qAm hr1;have HC1:=qAm hc1;clear hr1 hc1;have HB:=qAm (Below.refl w.heap.size w);have H:((slices_Clone_int64_int64.f l0).bind fun t216=>(if 0≤(wrap64 ((wrap64 ((t216.length:Int) - (l1.length:Int)))+1)) then (if (wrap64 ((wrap64 ((t216.length:Int) - (l1.length:Int)))+1):Int).toNat≤35184372088832 then ((some (List.replicate (wrap64 ((wrap64 ((t216.length:Int) - (l1.length:Int)))+1):Int).toNat 0:List Int)).bind fun y219=>(impl_quotient.l0 k t216 l1 y219 (wrap64 ((y219.length:Int) - 1)))) else (none)) else (none)))=some r:=h;clear h;replace H:=qOb H;obtain⟨t216,A30,H⟩:=H;replace H:(if 0≤(wrap64 ((wrap64 ((t216.length:Int) - (l1.length:Int)))+1)) then (if (wrap64 ((wrap64 ((t216.length:Int) - (l1.length:Int)))+1):Int).toNat≤35184372088832 then ((some (List.replicate (wrap64 ((wrap64 ((t216.length:Int) - (l1.length:Int)))+1):Int).toNat 0:List Int)).bind fun y219=>(impl_quotient.l0 k t216 l1 y219 (wrap64 ((y219.length:Int) - 1)))) else (none)) else (none))=some r:=H;have A3:=qAm A30;clear A30;obtain⟨ji4,hji4⟩:∃j_:Int,(wrap64 ((wrap64 ((t216.length:Int) - (l1.length:Int)))+1))=j_:=⟨_,rfl⟩
  replace H:(if 0≤(ji4) then (if (ji4:Int).toNat≤35184372088832 then ((some (List.replicate (ji4:Int).toNat 0:List Int)).bind fun y219=>(impl_quotient.l0 k t216 l1 y219 (wrap64 ((y219.length:Int) - 1)))) else (none)) else (none))=some r:=by first|(rw [hji4] at H;exact H)|(simp only [hji4] at H ⊢;exact H)
  (try rw [hji4] at A3)
  have hji4w:(IntKind.i64.wrap ((wrap64 ((t216.length:Int) - (l1.length:Int)))+1))=ji4:=(i64_w _).trans hji4
  by_cases c5:0≤(ji4)
  · rw [if_pos c5] at H
    have c5b0:=eq_true c5;have c5b1:decide (0≤(ji4))=true:=decide_eq_true c5;clear c5
    by_cases c6:(ji4:Int).toNat≤35184372088832
    · rw [if_pos c6] at H
      have c6b0:=eq_true c6;have c6b1:decide ((ji4:Int).toNat≤35184372088832)=true:=decide_eq_true c6;clear c6;obtain⟨y219,hy219⟩:∃y_:List Int,y_=(List.replicate (ji4:Int).toNat 0):=⟨_,rfl⟩
      replace H:(impl_quotient.l0 k t216 l1 y219 (wrap64 ((y219.length:Int) - 1)))=some r:=by first|(rw [hy219];with_reducible exact H)|(have H2_:=(Option.bind_some _ _).symm.trans H;rw [hy219];with_reducible exact H2_)|(have H2_:=(Option.bind_some _ _).symm.trans H;with_reducible exact H2_)|with_reducible exact H|(rw [hy219];exact H)|exact H
      have Ny219:=qAm hy219;clear hy219;have H':=qAm H;clear H;go_enter Try.func133,Try.ntmps133;go_wp2_with (first|((with_reducible refine gate_callee (f:=141) rfl ?_);refine goesL_ (some 10) rfl rfl Try.func141 (by kernel_rfl) rfl #[.slice A0 l0.length c0] rfl qB17 ?_;(with_reducible refine(slices_Clone_int64_int64.calls _ _ l0 t216 _ ?side1 ?side2 A3.1).mono ?_);(case side1=>repeat(first|exact HR0.1|(with_reducible refine Kd.C_alloc ?_ _)|(with_reducible refine Kd.C_drewN ?_ _)|(with_reducible refine Kd.C_drew ?_)));(case side2=>exact HC0.1);rintro e w7 ⟨v217,rfl,ho0,hb⟩;refine⟨_,rfl,?_⟩;have n0_:=qAm (Kd.R_lower ho0 (below_size qB18));have n1_:=qAm (below_step qB18 hb);clear HB;have HO218:=n0_;have HB:=n1_;clear n0_ n1_;(try clear hb);(try clear hb2);(try clear hk);(try clear hi);(try clear ho0);obtain⟨Ao8,co8,eo8⟩:=Kd.R_slice HO218.1;subst eo8)|((with_reducible refine gate_dst (N:=17) rfl ?_);refine Kd.R_make (Kd.int .i64) _ 2 rfl (N:=17) rfl 22 _ _ rfl ji4 rfl rfl Try.underlying22 (.int .i64 0) 8 info2 rfl (by decide) (by omega) 0 (ok:=fun _=>True) (okp:=fun _=>True) rfl (fun _ hk=>hk) trivial (of_decide_eq_true qB51) (Nat.le_trans (Nat.mul_le_mul_right _ (of_decide_eq_true qB51:ji4.toNat≤35184372088832)) (by omega)) (Below.refl _ _) (Nat.le_refl _) ?_;intro v220 w9 ho10 hb hg_ hnew_;clear hg_ hnew_;(first|rw [← Ny219.1] at ho10|(simp only [Int.reduceToNat] at ho10;rw [← Ny219.1] at ho10));have n0_:=qAm (Kd.R_elder' qB35 (Kd.R_base ho10) hb);have n1_:=qAm (Kd.R_lower (Kd.R_new' ho10 (Kd.R_lt qB35)) (below_size qB18));have n2_:=qAm (below_step qB18 hb);clear HO218;clear HB;have HO218:=n0_;have HO221:=n1_;have HB:=n2_;clear n0_ n1_ n2_;clear hb ho10;obtain⟨Ao11,co11,eo11⟩:=Kd.R_slice HO221.1;subst eo11));try simp only [Act.put,qSa,qSc,qSb]
      go_loopg [6] k (fun kq v6 w'=>∃(x0_1:List Int) (x5_1:List Int) (x6_1:Int),v6=.int .i64 x6_1∧Aside0 (impl_quotient.l0 kq x0_1 l1 x5_1 x6_1=some r)∧Aside0 (kq≤k)∧Aside0 (Kd.R (Kd.int .i64) 2 w' w.heap.size (fun k_=>some k_≠((.slice Ao11 y219.length co11):Value).ownBlock) (.slice Ao8 t216.length co8) x0_1)∧Aside0 (Kd.R (Kd.int .i64) 2 w' w.heap.size (fun k_=>some k_≠((.slice Ao8 t216.length co8):Value).ownBlock) (.slice Ao11 y219.length co11) x5_1)∧Aside0 (Below w.heap.size w w'))
      case atStart=>exact⟨(t216),(y219),(wrap64 ((y219.length:Int) - 1)),qB52,H',⟨Nat.le_refl _⟩,⟨by (with_reducible repeat(first|apply Kd.R_alloc|apply Kd.R_drewN|apply Kd.R_drew));exact Kd.R_mono HO218.1 (fun _ hk=>hk.2)⟩,⟨by (with_reducible repeat(first|apply Kd.R_alloc|apply Kd.R_drewN|apply Kd.R_drew));exact Kd.R_mono HO221.1 (fun _ hk=>hk.2)⟩,⟨by repeat(first|(with_reducible first|exact HB.1|apply below_alloc|apply pw_below_drewN|apply below_drew1)|exact HB.1)⟩⟩
      case round=>
        clear H';try clear c1
        try clear p2
        try clear c5
        try clear c5b0
        try clear c5b1
        try clear c6
        try clear c6b0
        try clear c6b1
        try clear p6
        obtain⟨x0_1,x5_1,x6_1,rfl,HA,HK1,HO_0,HO_5,HB⟩:=hrel;have hl0_1:=(Kd.R_reads' HO_0.1).1;rw [hl0_1] at HO_0
        (try simp only [hl0_1])
        (try simp only [hl0_1] at HO_5)
        have hl5_1:=(Kd.R_reads' HO_5.1).1;rw [hl5_1] at HO_5
        (try simp only [hl5_1])
        (try simp only [hl5_1] at HO_0)
        cases gk with
        |zero=>exact absurd HA.1 (by simp [impl_quotient.l0])
        |succ k1=>
          have H:=HA.1;clear HA;simp only [impl_quotient.l0] at H
          by_cases c12:x6_1≥0
          · rw [if_pos c12] at H
            have c12b0:decide (0≤x6_1)=true:=decide_eq_true c12;clear c12;obtain⟨ji13,hji13⟩:∃j_:Int,(wrap64 ((wrap64 (x6_1+(l1.length:Int))) - 1))=j_:=⟨_,rfl⟩
            replace H:(if 0≤(ji13) then (if (ji13)<(x0_1.length:Int) then (if 0≤x6_1 then (if x6_1<(x5_1.length:Int) then (impl_quotient.l1 k1 x0_1 l1 (x5_1.set (x6_1:Int).toNat (rd x0_1 (ji13))) x6_1 l1 (l1.length:Int) 0) else (none)) else (none)) else (none)) else (none))=some r:=by first|(rw [hji13] at H;exact H)|(simp only [hji13] at H ⊢;exact H)
            have hji13w:(IntKind.i64.wrap ((wrap64 (x6_1+(l1.length:Int))) - 1))=ji13:=(i64_w _).trans hji13
            by_cases c14:0≤(ji13)
            · rw [if_pos c14] at H
              have c14b0:decide (0≤(ji13))=true:=decide_eq_true c14;clear c14
              by_cases c15:(ji13)<(x0_1.length:Int)
              · rw [if_pos c15] at H
                have c15b0:decide ((ji13)<(x0_1.length:Int))=true:=decide_eq_true c15;clear c15
                by_cases c16:0≤x6_1
                · rw [if_pos c16] at H
                  have c16b0:decide (0≤x6_1)=true:=decide_eq_true c16;clear c16
                  by_cases c17:x6_1<(x5_1.length:Int)
                  · rw [if_pos c17] at H
                    have c17b0:decide (x6_1<(x5_1.length:Int))=true:=decide_eq_true c17;clear c17;obtain⟨y223,hy223⟩:∃y_:List Int,y_=(x5_1.set (x6_1:Int).toNat (rd x0_1 (ji13))):=⟨_,rfl⟩
                    replace H:(impl_quotient.l1 k1 x0_1 l1 y223 x6_1 l1 (l1.length:Int) 0)=some r:=by first|(rw [hy223];with_reducible exact H)|(have H2_:=(Option.bind_some _ _).symm.trans H;rw [hy223];with_reducible exact H2_)|(have H2_:=(Option.bind_some _ _).symm.trans H;with_reducible exact H2_)|with_reducible exact H|(rw [hy223];exact H)|exact H
                    have Ny223:=qAm hy223;clear hy223;have H':=qAm H;clear H;have p222:0≤((ji13):Int):=of_decide_eq_true qB51;have q222:(ji13)<(x0_1.length:Int):=of_decide_eq_true qB51;obtain⟨ad222,e222,hx222_0⟩:=Kd.at_int (Kd.R_reads' HO_0.1).2.2 (ji13) p222 q222;cases e222
                    replace p222:=eq_true p222;replace q222:=eq_true q222;have p18:0≤(x6_1:Int):=of_decide_eq_true qB51;have q18:(x6_1:Int)<((x5_1.length:Int):Int):=of_decide_eq_true qB51;obtain⟨go18,co18,eo18,gb18,gl18,cl18,HG18⟩:=Kd.R_form HO_5.1 (by omega)
                    (first|cases eo18|(injection eo18 with ea_ en_ ec_;(first|subst ea_|(injection ea_ with ea_;subst ea_));subst ec_;clear en_))
                    have GB18:=qAm gb18;have GG18:=qAm HG18;clear gb18 gl18 HG18;obtain⟨hx18_0,hf18_0⟩:=Kd.R_celln 0 HO_5.1 (x6_1:Int) p18 q18;replace p18:=eq_true p18;replace q18:=eq_true q18;have HP19:=Kd.R_putg HO_5.1 (x6_1:Int) (rd x0_1 (ji13));go_wp2_with (first|((with_reducible refine gate_store (t:=2) (p:=35) rfl ?_);refine store_event (t:=2) (p:=35) (v:=?vo_w20) (w1:=(wr.setCell ⟨go18,(x6_1:Int).toNat,none⟩ (.int .i64 (rd x0_1 (ji13))))) ?hg ?ho ?hn ?hr ?_;(case ho=>rfl);(case hg=>rfl);(case hn=>rfl);(case hr=>first|(go_simp;done)|(go_simp;rfl));intro w20 hw;have hg:wr.grownBy w20 (some go18):=(by rw [hw];exact HP19.2);have hp_:Kd.R (Kd.int .i64) 2 w20 w.heap.size (fun k_=>some k_≠(.slice (some ad222) x0_1.length co8:Value).ownBlock) (.slice (some ⟨go18,0,none⟩) x5_1.length co11) y223:=(by rw [hw,Ny223.1];exact HP19.1);clear HP19;have n0_:=qAm (Kd.R_after (v:=(.slice (some ⟨go18,0,none⟩) x5_1.length co11)) (v1:=(.slice (some ⟨go18,0,none⟩) x5_1.length co11)) (ok:=(fun _=>True)) (by (with_reducible repeat(first|apply Kd.R_alloc|apply Kd.R_drewN|apply Kd.R_drew));exact Kd.R_mono HO_0.1 (fun _ hk=>⟨trivial,hk⟩)) hg (.inl rfl));have n1_:=qAm (hp_);have n2_:=qAm ((by rw [hw];exact below_set (HB.1) GB18.1:Below w.heap.size w w20));clear HO_0;clear HO_5;clear HB;have HO_0:=n0_;have HO_5:=n1_;have HB:=n2_;clear n0_ n1_ n2_;clear hg hw hp_));try simp only [Act.put,qSa,qSc,qSb]
                    go_loopg [38] k1 (fun kq v38 w'=>∃(x0_2:List Int) (x38_2:Int),v38=.int .i64 x38_2∧Aside0 (impl_quotient.l1 kq x0_2 l1 y223 x6_1 l1 (l1.length:Int) x38_2=some r)∧Aside0 (kq≤k1)∧Aside0 (Kd.R (Kd.int .i64) 2 w' w.heap.size (fun k_=>some k_≠((.slice (some ⟨go18,0,none⟩) x5_1.length co11):Value).ownBlock) (.slice (some ad222) x0_1.length co8) x0_2)∧Aside0 (Kd.R (Kd.int .i64) 2 w' w.heap.size (fun k_=>some k_≠((.slice (some ad222) x0_1.length co8):Value).ownBlock) (.slice (some ⟨go18,0,none⟩) x5_1.length co11) y223)∧Aside0 (Below w.heap.size w w'))
                    case atStart=>exact⟨(x0_1),(0),qB52,H',⟨Nat.le_refl _⟩,⟨by (try simp only [hl0_1]);(try simp only [hl5_1]);(with_reducible repeat(first|apply Kd.R_alloc|apply Kd.R_drewN|apply Kd.R_drew));exact Kd.R_mono HO_0.1 (fun _ hk=>hk.2)⟩,⟨by (try simp only [hl0_1]);(try simp only [hl5_1]);(with_reducible repeat(first|apply Kd.R_alloc|apply Kd.R_drewN|apply Kd.R_drew));exact HO_5.1⟩,⟨by repeat(first|(with_reducible first|exact HB.1|apply below_alloc|apply pw_below_drewN|apply below_drew1)|exact HB.1)⟩⟩
                    case round=>
                      clear H';try clear c1
                      try clear p1
                      try clear q1
                      try clear hx1
                      try clear p2
                      try clear q2
                      try clear hx2
                      try clear c5
                      try clear c5b0
                      try clear c5b1
                      try clear c6
                      try clear c6b0
                      try clear c6b1
                      try clear p6
                      try clear c12
                      try clear c12b0
                      try clear c13
                      try clear c14
                      try clear c14b0
                      try clear c15
                      try clear c15b0
                      try clear c16
                      try clear c16b0
                      try clear c17
                      try clear c17b0
                      try clear p18
                      try clear q18
                      try clear hx18
                      try clear hf18
                      try clear hx18_0
                      try clear hx222_0
                      try clear p18
                      try clear p2
                      try clear p222
                      try clear p6
                      try clear q18
                      try clear q222
                      obtain⟨x0_2,x38_2,rfl,HA,HK2,HO_0,HO_5,HB⟩:=hrel;have hl0_2:=(Kd.R_reads' HO_0.1).1;rw [hl0_2] at HO_0
                      (try simp only [hl0_2])
                      (try simp only [hl0_2] at HO_5)
                      have hl5_2:=(Kd.R_reads' HO_5.1).1;rw [hl5_2] at HO_5
                      (try simp only [hl5_2])
                      (try simp only [hl5_2] at HO_0)
                      cases gk with
                      |zero=>exact absurd HA.1 (by simp [impl_quotient.l1])
                      |succ k2=>
                        have H:=HA.1;clear HA;simp only [impl_quotient.l1] at H
                        by_cases c21:x38_2<(l1.length:Int)
                        · rw [if_pos c21] at H
                          have c21b0:decide (x38_2<(l1.length:Int))=true:=decide_eq_true c21;clear c21
                          by_cases c22:0≤x38_2
                          · rw [if_pos c22] at H
                            have c22b0:decide (0≤x38_2)=true:=decide_eq_true c22;clear c22
                            by_cases c23:x38_2<(l1.length:Int)
                            · rw [if_pos c23] at H
                              have c23b0:decide (x38_2<(l1.length:Int))=true:=decide_eq_true c23;clear c23;obtain⟨ji24,hji24⟩:∃j_:Int,(wrap64 (x6_1+x38_2))=j_:=⟨_,rfl⟩
                              replace H:(if 0≤(ji24) then (if (ji24)<(x0_2.length:Int) then (if 0≤x6_1 then (if x6_1<(y223.length:Int) then (impl_quotient.l1 k2 (x0_2.set ((ji24):Int).toNat (wrap64 ((rd x0_2 (ji24)) - (wrap64 ((rd y223 x6_1)*(rd l1 x38_2)))))) l1 y223 x6_1 l1 (l1.length:Int) (wrap64 (x38_2+1))) else (none)) else (none)) else (none)) else (none))=some r:=by first|(rw [hji24] at H;exact H)|(simp only [hji24] at H ⊢;exact H)
                              have hji24w:(IntKind.i64.wrap (x6_1+x38_2))=ji24:=(i64_w _).trans hji24
                              by_cases c25:0≤(ji24)
                              · rw [if_pos c25] at H
                                have c25b0:decide (0≤(ji24))=true:=decide_eq_true c25;clear c25
                                by_cases c26:(ji24)<(x0_2.length:Int)
                                · rw [if_pos c26] at H
                                  have c26b0:decide ((ji24)<(x0_2.length:Int))=true:=decide_eq_true c26;clear c26
                                  by_cases c27:0≤x6_1
                                  · rw [if_pos c27] at H
                                    have c27b0:decide (0≤x6_1)=true:=decide_eq_true c27;clear c27
                                    by_cases c28:x6_1<(y223.length:Int)
                                    · rw [if_pos c28] at H
                                      have c28b0:decide (x6_1<(y223.length:Int))=true:=decide_eq_true c28;clear c28;obtain⟨y227,hy227⟩:∃y_:List Int,y_=(x0_2.set ((ji24):Int).toNat (wrap64 ((rd x0_2 (ji24)) - (wrap64 ((rd y223 x6_1)*(rd l1 x38_2)))))):=⟨_,rfl⟩
                                      replace H:(impl_quotient.l1 k2 y227 l1 y223 x6_1 l1 (l1.length:Int) (wrap64 (x38_2+1)))=some r:=by first|(rw [hy227];with_reducible exact H)|(have H2_:=(Option.bind_some _ _).symm.trans H;rw [hy227];with_reducible exact H2_)|(have H2_:=(Option.bind_some _ _).symm.trans H;with_reducible exact H2_)|with_reducible exact H|(rw [hy227];exact H)|exact H
                                      have Ny227:=qAm hy227;clear hy227;have H':=qAm H;clear H;have p224:0≤(x38_2:Int):=of_decide_eq_true qB51;have q224:x38_2<(l1.length:Int):=of_decide_eq_true qB51;obtain⟨ad224,e224,hx224_0⟩:=Kd.at_int HR1.1 x38_2 p224 q224;cases e224
                                      replace hx224_0:=(HB.1.cell (World.block_lt_of_cell? w _ hx224_0)).trans hx224_0;replace p224:=eq_true p224;replace q224:=eq_true q224;try go_wp2
                                      have n0_:=qAm (Kd.R_drew HO_0.1);have n1_:=qAm (Kd.R_drew HO_5.1);have n2_:=qAm (below_drew1 HB.1);clear HO_0 HO_5 HB;have HO_0:=n0_;have HO_5:=n1_;have HB:=n2_;clear n0_ n1_ n2_;have p225:0≤((ji24):Int):=of_decide_eq_true qB51;have q225:(ji24)<(x0_2.length:Int):=of_decide_eq_true qB51;obtain⟨ad225,e225,hx225_0⟩:=Kd.at_int (Kd.R_reads' HO_0.1).2.2 (ji24) p225 q225;obtain rfl:ad222=ad225:=(by injection e225)
                                      replace p225:=eq_true p225;replace q225:=eq_true q225;have p226:0≤(x6_1:Int):=of_decide_eq_true qB51;have q226:x6_1<(y223.length:Int):=of_decide_eq_true qB51;obtain⟨ad226,e226,hx226_0⟩:=Kd.at_int (Kd.R_reads' HO_5.1).2.2 x6_1 p226 q226;obtain rfl:(⟨go18,0,none⟩:Addr)=ad226:=(by injection e226)
                                      (first|simp only [add_plain] at hx226_0|simp only [add_at] at hx226_0|simp only [Addr.add,Nat.zero_add] at hx226_0|skip)
                                      replace p226:=eq_true p226;replace q226:=eq_true q226;have p29:0≤((ji24):Int):=of_decide_eq_true qB51;have q29:((ji24):Int)<((x0_2.length:Int):Int):=of_decide_eq_true qB51;obtain⟨go29,co29,eo29,gb29,gl29,cl29,HG29⟩:=Kd.R_form HO_0.1 (by omega)
                                      (first|cases eo29|(injection eo29 with ea_ en_ ec_;(first|subst ea_|(injection ea_ with ea_;subst ea_));subst ec_;clear en_))
                                      have GB29:=qAm gb29;have GG29:=qAm HG29;clear gb29 gl29 HG29
                                      (first|simp only [add_plain] at hx222_0|skip)
                                      (first|simp only [add_plain] at hx225_0|skip)
                                      obtain⟨hx29_0,hf29_0⟩:=Kd.R_celln 0 HO_0.1 ((ji24):Int) p29 q29;replace p29:=eq_true p29;replace q29:=eq_true q29;have HP31:=Kd.R_putn HO_0.1 ((ji24):Int) (wrap64 ((rd x0_2 (ji24)) - (wrap64 ((rd y223 x6_1)*(rd l1 x38_2)))));rw [← Ny227.1] at HP31;have HQ31:=qAm HP31;clear HP31;refine start_ (n:=15) (S:=fun w'=>w'.cell? ⟨go29,((ji24)).toNat,none⟩=some (.int .i64 (rd x0_2 (ji24)))∧w'.cell? ⟨go18,(x6_1).toNat,none⟩=some (.int .i64 (rd y223 x6_1))) (ds:=[14]) #[false,false,false,false,false,false,false,false,false,false,false,false,false,false,false] (by kernel_rfl) rfl rfl ⟨hx225_0,hx226_0⟩ (fun hHeld=>?_);refine with_tabW impl_quotient.tab10 impl_quotient.bits10 (fun HT_ HW_=>?_)
                                      (first|generalize wr.drew=w30 at HO_0 HO_5 HB GG29 HQ31 hf29_0 hx222_0 hx225_0 hx226_0 hx29_0 hHeld ⊢|generalize wr.drew=w30 at HO_0 HO_5 HB GG29 HQ31 hf29_0 hx225_0 hx226_0 hx29_0 hHeld ⊢)
                                      refine pure_ (i:=0) (N:=some 43) (v:=?_) (a':=?_) #[true,false,false,false,false,false,false,false,false,false,false,false,false,false,false] rfl rfl (any_of HT_.1 (by kernel_rfl)) (fun _ _ _ h=>h) (Or.inl ⟨by rfl,?_⟩) ?_ ?_;rotate_left
                                      · intro w'
                                        go_simp;with_reducible rfl
                                      rotate_left
                                      · simp only [Act.put,qSa,qSb,qSc,i64_w,i32_w]
                                        rfl
                                      refine pure_ (i:=1) (N:=some 44) (v:=?_) (a':=?_) #[true,true,false,false,false,false,false,false,false,false,false,false,false,false,false] rfl rfl (any_of HT_.1 (by kernel_rfl)) (fun _ _ _ h=>h) (Or.inl ⟨by rfl,?_⟩) ?_ ?_;rotate_left
                                      · intro w'
                                        go_simp;with_reducible rfl
                                      rotate_left
                                      · simp only [Act.put,qSa,qSb,qSc,i64_w,i32_w]
                                        rfl
                                      refine pure_ (i:=2) (N:=some 45) (v:=?_) (a':=?_) #[true,true,true,false,false,false,false,false,false,false,false,false,false,false,false] rfl rfl (any_of HT_.1 (by kernel_rfl)) (fun _ _ _ h=>h) (Or.inl ⟨by rfl,?_⟩) ?_ ?_;rotate_left
                                      · intro w'
                                        go_simp;with_reducible rfl
                                      rotate_left
                                      · simp only [Act.put,qSa,qSb,qSc,i64_w,i32_w]
                                        rfl
                                      refine pure_ (i:=3) (N:=some 46) (v:=?_) (a':=?_) #[true,true,true,true,false,false,false,false,false,false,false,false,false,false,false] rfl rfl (any_of HT_.1 (by kernel_rfl)) (fun _ _ _ h=>h) (Or.inl ⟨by rfl,?_⟩) ?_ ?_;rotate_left
                                      · intro w'
                                        go_simp;with_reducible rfl
                                      rotate_left
                                      · simp only [Act.put,qSa,qSb,qSc,i64_w,i32_w]
                                        rfl
                                      refine pure_ (i:=4) (N:=some 47) (v:=?_) (a':=?_) #[true,true,true,true,true,false,false,false,false,false,false,false,false,false,false] rfl rfl (any_of HT_.1 (by kernel_rfl)) (fun _ _ _ h=>h) (Or.inl ⟨by rfl,?_⟩) ?_ ?_;rotate_left
                                      · intro w'
                                        go_simp;with_reducible rfl
                                      rotate_left
                                      · simp only [Act.put,qSa,qSb,qSc,i64_w,i32_w]
                                        rfl
                                      refine pure_ (i:=6) (N:=some 49) (v:=?_) (a':=?_) #[true,true,true,true,true,false,true,false,false,false,false,false,false,false,false] rfl rfl (any_of HT_.1 (by kernel_rfl)) (fun _ _ _ h=>h) (Or.inl ⟨by rfl,?_⟩) ?_ ?_;rotate_left
                                      · intro w'
                                        go_simp;with_reducible rfl
                                      rotate_left
                                      · simp only [Act.put,qSa,qSb,qSc,i64_w,i32_w]
                                        rfl
                                      refine pure_ (i:=7) (N:=some 50) (v:=?_) (a':=?_) #[true,true,true,true,true,false,true,true,false,false,false,false,false,false,false] rfl rfl (any_of HT_.1 (by kernel_rfl)) (fun _ _ _ h=>h) (Or.inl ⟨by rfl,?_⟩) ?_ ?_;rotate_left
                                      · intro w'
                                        go_simp;with_reducible rfl
                                      rotate_left
                                      · simp only [Act.put,qSa,qSb,qSc,i64_w,i32_w]
                                        rfl
                                      refine pure_ (i:=8) (N:=some 51) (v:=?_) (a':=?_) #[true,true,true,true,true,false,true,true,true,false,false,false,false,false,false] rfl rfl (any_of HT_.1 (by kernel_rfl)) (fun _ _ _ h=>h) (Or.inl ⟨by rfl,?_⟩) ?_ ?_;rotate_left
                                      · intro w'
                                        go_simp;with_reducible rfl
                                      rotate_left
                                      · simp only [Act.put,qSa,qSb,qSc,i64_w,i32_w]
                                        rfl
                                      refine pure_ (i:=10) (N:=some 53) (v:=?_) (a':=?_) #[true,true,true,true,true,false,true,true,true,false,true,false,false,false,false] rfl rfl (any_of HT_.1 (by kernel_rfl)) (fun _ _ _ h=>h) (Or.inl ⟨by rfl,?_⟩) ?_ ?_;rotate_left
                                      · intro w'
                                        go_simp;with_reducible rfl
                                      rotate_left
                                      · simp only [Act.put,qSa,qSb,qSc,i64_w,i32_w]
                                        rfl
                                      refine take_ (i:=5) (N:=some 48) (v:=?_) (a':=?_) #[true,true,true,true,true,true,true,true,true,false,true,false,false,false,false] rfl rfl (take_ofW HT_.1 HW_.1 (by kernel_rfl)) (fun _ _ _ h=>h) (Or.inl ⟨by rfl,?_⟩) hHeld ?_ ?_;rotate_left
                                      · rintro w' ⟨s0,s1⟩
                                        go_simp;with_reducible rfl
                                      rotate_left
                                      · simp only [Act.put,qSa,qSb,qSc,i64_w,i32_w]
                                        rfl
                                      refine take_ (i:=9) (N:=some 52) (v:=?_) (a':=?_) #[true,true,true,true,true,true,true,true,true,true,true,false,false,false,false] rfl rfl (take_ofW HT_.1 HW_.1 (by kernel_rfl)) (fun _ _ _ h=>h) (Or.inl ⟨by rfl,?_⟩) hHeld ?_ ?_;rotate_left
                                      · rintro w' ⟨s0,s1⟩
                                        go_simp;with_reducible rfl
                                      rotate_left
                                      · simp only [Act.put,qSa,qSb,qSc,i64_w,i32_w]
                                        rfl
                                      refine pure_ (i:=11) (N:=some 54) (v:=?_) (a':=?_) #[true,true,true,true,true,true,true,true,true,true,true,true,false,false,false] rfl rfl (any_of HT_.1 (by kernel_rfl)) (fun _ _ _ h=>h) (Or.inl ⟨by rfl,?_⟩) ?_ ?_;rotate_left
                                      · intro w'
                                        go_simp;with_reducible rfl
                                      rotate_left
                                      · simp only [Act.put,qSa,qSb,qSc,i64_w,i32_w]
                                        rfl
                                      refine pure_ (i:=12) (N:=some 55) (v:=?_) (a':=?_) #[true,true,true,true,true,true,true,true,true,true,true,true,true,false,false] rfl rfl (any_of HT_.1 (by kernel_rfl)) (fun _ _ _ h=>h) (Or.inl ⟨by rfl,?_⟩) ?_ ?_;rotate_left
                                      · intro w'
                                        go_simp;with_reducible rfl
                                      rotate_left
                                      · simp only [Act.put,qSa,qSb,qSc,i64_w,i32_w]
                                        rfl
                                      refine pure_ (i:=13) (N:=some 56) (v:=?_) (a':=?_) #[true,true,true,true,true,true,true,true,true,true,true,true,true,true,false] rfl rfl (any_of HT_.1 (by kernel_rfl)) (fun _ _ _ h=>h) (Or.inl ⟨by rfl,?_⟩) ?_ ?_;rotate_left
                                      · intro w'
                                        go_simp;with_reducible rfl
                                      rotate_left
                                      · simp only [Act.put,qSa,qSb,qSc,i64_w,i32_w]
                                        rfl
                                      refine last_ (i:=14) (N:=none) #[true,true,true,true,true,true,true,true,true,true,true,true,true,true,true] rfl rfl (one_of HT_.1 (by kernel_rfl)) (by decide) (fun K hK=>?_);refine skip_ (w1:=?_) (by rfl) rfl ?_ ?_;rotate_left
                                      · go_simp
                                        rfl
                                      refine hK.out _ _ ?_;clear hK K;refine done_ (done_of HT_.1 (by kernel_rfl)) ?_;try go_wp2
                                      (try simp only [← hl0_2,← hl5_2])
                                      (first|go_roundg k2|((try simp only [add_plain] at *);go_roundg k2))
                                      case measure=>have:=HK1.1;have:=HK2.1;omega
                                      case rel=>exact⟨(y227),(wrap64 (x38_2+1)),qB52,H',⟨by have:=HK1.1;have:=HK2.1;omega⟩,⟨by (try simp only [hl0_1]);(try simp only [hl5_1]);(try simp only [hl0_2]);(try simp only [hl5_2]);(with_reducible repeat(first|apply Kd.R_alloc|apply Kd.R_drewN|apply Kd.R_drew));exact HQ31.1⟩,⟨by (try simp only [hl0_1]);(try simp only [hl5_1]);(try simp only [hl0_2]);(try simp only [hl5_2]);(with_reducible repeat(first|apply Kd.R_alloc|apply Kd.R_drewN|apply Kd.R_drew));exact Kd.R_mono (Kd.R_far (p:=⟨go29,((ji24):Int).toNat,none⟩) (Kd.R_mono HO_5.1 (fun k_ hk=>(⟨hk,fun e_=>hk (by rw [e_];rfl)⟩:_∧k_≠go29))) (fun _ hk=>hk.2) (.int .i64 (wrap64 ((rd x0_2 (ji24)) - (wrap64 ((rd y223 x6_1)*(rd l1 x38_2))))))) (fun _ hk=>hk.1)⟩,⟨by repeat(first|(with_reducible first|exact HB.1|apply below_alloc|apply pw_below_drewN|apply below_drew1|refine below_set ?_ GB29.1)|exact HB.1)⟩⟩
                                    · rw [if_neg c28] at H
                                      exact absurd H (by simp)
                                  · rw [if_neg c27] at H
                                    exact absurd H (by simp)
                                · rw [if_neg c26] at H
                                  exact absurd H (by simp)
                              · rw [if_neg c25] at H
                                exact absurd H (by simp)
                            · rw [if_neg c23] at H
                              exact absurd H (by simp)
                          · rw [if_neg c22] at H
                            exact absurd H (by simp)
                        · rw [if_neg c21] at H
                          have c21b0:decide (x38_2<(l1.length:Int))=false:=decide_eq_false c21;have c21b0_0:=c21b0
                          (try rw [hl0_1] at c21b0_0)
                          have c21b0_1:=c21b0
                          (try rw [hl5_1] at c21b0_1)
                          have c21b0_2:=c21b0
                          (try rw [hl0_2] at c21b0_2)
                          have c21b0_3:=c21b0
                          (try rw [hl5_2] at c21b0_3)
                          clear c21;have H':=qAm H;clear H;go_wp2
                          (try simp only [← hl0_1,← hl5_1,← hl0_2,← hl5_2])
                          (first|go_roundg k2|((try simp only [add_plain] at *);go_roundg k2))
                          case measure=>have:=HK1.1;have:=HK2.1;omega
                          case rel=>exact⟨(x0_2),(y223),(wrap64 (x6_1 - 1)),qB52,H',⟨by have:=HK1.1;have:=HK2.1;omega⟩,⟨by (try simp only [hl0_1]);(try simp only [hl5_1]);(try simp only [hl0_2]);(try simp only [hl5_2]);(with_reducible repeat(first|apply Kd.R_alloc|apply Kd.R_drewN|apply Kd.R_drew));exact HO_0.1⟩,⟨by (try simp only [hl0_1]);(try simp only [hl5_1]);(try simp only [hl0_2]);(try simp only [hl5_2]);(with_reducible repeat(first|apply Kd.R_alloc|apply Kd.R_drewN|apply Kd.R_drew));exact HO_5.1⟩,⟨by repeat(first|(with_reducible first|exact HB.1|apply below_alloc|apply pw_below_drewN|apply below_drew1)|exact HB.1)⟩⟩
                  · rw [if_neg c17] at H
                    exact absurd H (by simp)
                · rw [if_neg c16] at H
                  exact absurd H (by simp)
              · rw [if_neg c15] at H
                exact absurd H (by simp)
            · rw [if_neg c14] at H
              exact absurd H (by simp)
          · rw [if_neg c12] at H
            have c12b0:decide (0≤x6_1)=false:=decide_eq_false c12;clear c12;obtain rfl:=Option.some.inj H;go_wp2;go_ret;exact⟨_,by first|rfl|(simp [errW_none,errW_some] <;> rfl)|(simp only [← hji4];first|rfl|(simp [errW_none,errW_some] <;> rfl))|(simp [*,errW_none,errW_some] <;> rfl),by (with_reducible repeat(first|apply Kd.R_alloc|apply Kd.R_drewN|apply Kd.R_drew));exact Kd.R_mono HO_5.1 (fun _ hk=>trivial),by repeat(first|(with_reducible first|exact HB.1|apply below_alloc|apply pw_below_drewN|apply below_drew1)|exact HB.1)⟩
    · rw [if_neg c6] at H
      exact absurd H (by simp)
  · rw [if_neg c5] at H
    exact absurd H (by simp)

/-! ### impl_cyclotomic: function 108 -/
mutual
def impl_cyclotomic.l0:Nat→Int→List Int→Int→Option (List Int)
  |0,_,_,_=>none
  |k+1,x0,x3,x4=>if x4<x0 then (if x4=0 then (none) else (if (Int.tmod x0 x4)=0 then ((impl_cyclotomic.f k x4).bind fun t233=>((impl_quotient.f k x3 t233).bind fun t236=>(impl_cyclotomic.l0 k x0 t236 (wrap64 (x4+1))))) else (impl_cyclotomic.l0 k x0 x3 (wrap64 (x4+1))))) else (some x3)
def impl_cyclotomic.f:Nat→Int→Option (List Int)
  |0,_=>none
  |k+1,a0=>if 0≤(wrap64 (a0+1)) then (if (wrap64 (a0+1):Int).toNat≤35184372088832 then ((some (List.replicate (wrap64 (a0+1):Int).toNat 0:List Int)).bind fun y228=>(if 0<(y228.length:Int) then (if 0≤a0 then (if a0<(y228.length:Int) then (impl_cyclotomic.l0 k a0 ((y228.set (0:Int).toNat (-1)).set (a0:Int).toNat 1) 1) else (none)) else (none)) else (none))) else (none)) else (none)
end
theorem impl_cyclotomic.mono_l:∀k,(∀y0,LeO (impl_cyclotomic.f k y0) (impl_cyclotomic.f (k+1) y0))∧(∀y0 y1 y2,LeO (impl_cyclotomic.l0 k y0 y1 y2) (impl_cyclotomic.l0 (k+1) y0 y1 y2))
  |0=>⟨fun _ r h=>by simp [impl_cyclotomic.f] at h,fun _ _ _ r h=>by simp [impl_cyclotomic.l0] at h⟩
  |k+1=>by
    obtain⟨ih0,ih1⟩:=impl_cyclotomic.mono_l k;refine⟨?_,?_⟩
    · intro y0
      unfold impl_cyclotomic.f;repeat' first
      |(with_reducible exact ih0 _)
      |(with_reducible exact ih1 _ _ _)
      |(with_reducible exact impl_quotient.mono _ _ _)
      |(with_reducible exact LeO.refl _)
      |(with_reducible exact LeO.none _)
      |(with_reducible refine LeO.ite ?_ ?_)
      |(with_reducible refine LeO.bind ?_ (fun _=>?_))
      |exact ih0 _
      |exact ih1 _ _ _
      |exact impl_quotient.mono _ _ _
      |exact LeO.none _
      |refine LeO.ite ?_ ?_
      |refine LeO.bind ?_ (fun _=>?_)
    · intro y0 y1 y2
      unfold impl_cyclotomic.l0;repeat' first
      |(with_reducible exact ih0 _)
      |(with_reducible exact ih1 _ _ _)
      |(with_reducible exact impl_quotient.mono _ _ _)
      |(with_reducible exact LeO.refl _)
      |(with_reducible exact LeO.none _)
      |(with_reducible refine LeO.ite ?_ ?_)
      |(with_reducible refine LeO.bind ?_ (fun _=>?_))
      |exact ih0 _
      |exact ih1 _ _ _
      |exact impl_quotient.mono _ _ _
      |exact LeO.none _
      |refine LeO.ite ?_ ?_
      |refine LeO.bind ?_ (fun _=>?_)
theorem impl_cyclotomic.mono:∀a0 k,LeO (impl_cyclotomic.f k a0) (impl_cyclotomic.f (k+1) a0):=by
  intro a0 k;obtain⟨ih0,ih1⟩:=impl_cyclotomic.mono_l k;exact ih0 a0
set_option maxHeartbeats 8000000 in
set_option maxRecDepth 100000 in
theorem impl_cyclotomic.calls (k:Nat):∀(a0:Int) (r:List Int) (w:World) (h:impl_cyclotomic.f k a0=some r),
    Calls Try.prog 108 #[.int .i64 a0] w fun e w'=>∃v0_:Value,e=.returned (v0_)∧Kd.R (Kd.int .i64) 2 w' w.heap.size (fun _=>True) v0_ r∧Below w.heap.size w w':=by
  induction k using Nat.strongRecOn with
  |_ k ih=>
  intro a0 r w h;cases k with
  |zero=>exact absurd h (by simp [impl_cyclotomic.f])
  |succ k=>
  simp only [impl_cyclotomic.f] at h;have HB:=qAm (Below.refl w.heap.size w);have H:(if 0≤(wrap64 (a0+1)) then (if (wrap64 (a0+1):Int).toNat≤35184372088832 then ((some (List.replicate (wrap64 (a0+1):Int).toNat 0:List Int)).bind fun y228=>(if 0<(y228.length:Int) then (if 0≤a0 then (if a0<(y228.length:Int) then (impl_cyclotomic.l0 k a0 ((y228.set (0:Int).toNat (-1)).set (a0:Int).toNat 1) 1) else (none)) else (none)) else (none))) else (none)) else (none))=some r:=h;clear h;obtain⟨ji2,hji2⟩:∃j_:Int,(wrap64 (a0+1))=j_:=⟨_,rfl⟩
  replace H:(if 0≤(ji2) then (if (ji2:Int).toNat≤35184372088832 then ((some (List.replicate (ji2:Int).toNat 0:List Int)).bind fun y228=>(if 0<(y228.length:Int) then (if 0≤a0 then (if a0<(y228.length:Int) then (impl_cyclotomic.l0 k a0 ((y228.set (0:Int).toNat (-1)).set (a0:Int).toNat 1) 1) else (none)) else (none)) else (none))) else (none)) else (none))=some r:=by first|(rw [hji2] at H;exact H)|(simp only [hji2] at H ⊢;exact H)
  have hji2w:(IntKind.i64.wrap (a0+1))=ji2:=(i64_w _).trans hji2
  by_cases c3:0≤(ji2)
  · rw [if_pos c3] at H
    have c3b0:=eq_true c3;have c3b1:decide (0≤(ji2))=true:=decide_eq_true c3;clear c3
    by_cases c4:(ji2:Int).toNat≤35184372088832
    · rw [if_pos c4] at H
      have c4b0:=eq_true c4;have c4b1:decide ((ji2:Int).toNat≤35184372088832)=true:=decide_eq_true c4;clear c4;obtain⟨y228,hy228⟩:∃y_:List Int,y_=(List.replicate (ji2:Int).toNat 0):=⟨_,rfl⟩
      replace H:(if 0<(y228.length:Int) then (if 0≤a0 then (if a0<(y228.length:Int) then (impl_cyclotomic.l0 k a0 ((y228.set (0:Int).toNat (-1)).set (a0:Int).toNat 1) 1) else (none)) else (none)) else (none))=some r:=by first|(rw [hy228];with_reducible exact H)|(have H2_:=(Option.bind_some _ _).symm.trans H;rw [hy228];with_reducible exact H2_)|(have H2_:=(Option.bind_some _ _).symm.trans H;with_reducible exact H2_)|with_reducible exact H|(rw [hy228];exact H)|exact H
      have Ny228:=qAm hy228;clear hy228
      by_cases c5:0<(y228.length:Int)
      · rw [if_pos c5] at H
        have c5b0:decide (0<(y228.length:Int))=true:=decide_eq_true c5;have c5b1:decide (0<y228.length)=true:=decide_eq_true (by omega);clear c5;obtain⟨y231,hy231⟩:∃y_:List Int,y_=(y228.set (0:Int).toNat (-1)):=⟨_,rfl⟩
        replace H:(if 0≤a0 then (if a0<(y228.length:Int) then (impl_cyclotomic.l0 k a0 (y231.set (a0:Int).toNat 1) 1) else (none)) else (none))=some r:=by first|(rw [hy231];with_reducible exact H)|(have H2_:=(Option.bind_some _ _).symm.trans H;rw [hy231];with_reducible exact H2_)|(have H2_:=(Option.bind_some _ _).symm.trans H;with_reducible exact H2_)|with_reducible exact H|(rw [hy231];exact H)|exact H
        have Ny231:=qAm hy231;clear hy231
        by_cases c7:0≤a0
        · rw [if_pos c7] at H
          have c7b0:decide (0≤a0)=true:=decide_eq_true c7;clear c7
          by_cases c8:a0<(y228.length:Int)
          · rw [if_pos c8] at H
            have c8b0:decide (a0<(y228.length:Int))=true:=decide_eq_true c8;clear c8;obtain⟨y232,hy232⟩:∃y_:List Int,y_=(y231.set (a0:Int).toNat 1):=⟨_,rfl⟩
            replace H:(impl_cyclotomic.l0 k a0 y232 1)=some r:=by first|(rw [hy232];with_reducible exact H)|(have H2_:=(Option.bind_some _ _).symm.trans H;rw [hy232];with_reducible exact H2_)|(have H2_:=(Option.bind_some _ _).symm.trans H;with_reducible exact H2_)|with_reducible exact H|(rw [hy232];exact H)|exact H
            have Ny232:=qAm hy232;clear hy232;have H':=qAm H;clear H;go_enter Try.func108,Try.ntmps108;go_wp2_with (first|((with_reducible refine gate_dst (N:=7) rfl ?_);refine Kd.R_make (Kd.int .i64) _ 2 rfl (N:=7) rfl 22 _ _ rfl ji2 rfl rfl Try.underlying22 (.int .i64 0) 8 info2 rfl (by decide) (by omega) 0 (ok:=fun _=>True) (okp:=fun _=>True) rfl (fun _ hk=>hk) trivial (of_decide_eq_true qB51) (Nat.le_trans (Nat.mul_le_mul_right _ (of_decide_eq_true qB51:ji2.toNat≤35184372088832)) (by omega)) (Below.refl _ _) (Nat.le_refl _) ?_;intro v229 w10 ho11 hb hg_ hnew_;clear hg_ hnew_;(first|rw [← Ny228.1] at ho11|(simp only [Int.reduceToNat] at ho11;rw [← Ny228.1] at ho11));have n0_:=qAm (Kd.R_lower ho11 (below_size qB18));have n1_:=qAm (below_step qB18 hb);clear HB;have HO230:=n0_;have HB:=n1_;clear n0_ n1_;clear hb ho11;have p6:0≤(0:Int):=(by omega);have q6:(0:Int)<((y228.length:Int):Int):=of_decide_eq_true qB51;have qi6:(0<y228.length)=True:=eq_true (by omega);obtain⟨go6,co6,eo6,gb6,gl6,cl6,HG6⟩:=Kd.R_form HO230.1 (by omega);(first|cases eo6|(injection eo6 with ea_ en_ ec_;(first|subst ea_|(injection ea_ with ea_;subst ea_));subst ec_;clear en_));have GB6:=qAm gb6;have GG6:=qAm HG6;clear gb6 gl6 HG6;obtain⟨hx6_0,hf6_0⟩:=Kd.R_celln 0 HO230.1 (0:Int) p6 q6;(try rw [show((0:Int)).toNat=0 from rfl] at hx6_0);(try simp only [Nat.reduceMul,Nat.zero_mul,Nat.zero_add,Nat.reduceAdd] at hx6_0);(try rw [show((0:Int)).toNat=0 from rfl] at hf6_0);(try simp only [Nat.reduceMul,Nat.zero_mul,Nat.zero_add,Nat.reduceAdd] at hf6_0);replace p6:=eq_true p6;replace q6:=eq_true q6;obtain⟨hy12_,hz12_⟩:=Kd.R_celln 0 HO230.1 (0:Int) (by omega) (of_decide_eq_true qB51);(try simp only [Int.reduceToNat,Int.toNat_zero,Int.toNat_ofNat,Nat.reduceMul,Nat.zero_mul,Nat.zero_add] at hy12_ hz12_);(try rw [show((0:Int)).toNat=0 from rfl] at hy12_);(try rw [show((0:Int)).toNat=0 from rfl] at hz12_);have HP12:=Kd.R_putg HO230.1 (0:Int) (-1))|((with_reducible refine gate_store (t:=2) (p:=11) rfl ?_);refine store_event (t:=2) (p:=11) (v:=?vo_w13) (w1:=(w10.setCell ⟨go6,(0:Int).toNat,none⟩ (.int .i64 (-1)))) ?hg ?ho ?hn ?hr ?_;(case ho=>rfl);(case hg=>rfl);(case hn=>rfl);(case hr=>first|(go_simp;done)|(go_simp;rfl));intro w13 hw;have hg:w10.grownBy w13 (some go6):=(by rw [hw];exact HP12.2);have hp_:Kd.R (Kd.int .i64) 2 w13 w.heap.size (fun _=>True) (.slice (some ⟨go6,0,none⟩) y228.length co6) y231:=(by rw [hw,Ny231.1];exact HP12.1);clear HP12;have n0_:=qAm (hp_);have n1_:=qAm ((by rw [hw];exact below_set (HB.1) GB6.1:Below w.heap.size w w13));clear HO230;clear HB;have HO230:=n0_;have HB:=n1_;clear n0_ n1_;clear hg hw hp_;have p9:0≤(a0:Int):=of_decide_eq_true qB51;have q9:(a0:Int)<((y228.length:Int):Int):=of_decide_eq_true qB51;obtain⟨hx9_0,hf9_0⟩:=Kd.R_celln 0 HO230.1 (a0:Int) p9 q9;replace p9:=eq_true p9;replace q9:=eq_true q9;obtain⟨hy14_,hz14_⟩:=Kd.R_celln 0 HO230.1 (a0:Int) (of_decide_eq_true qB51) (of_decide_eq_true qB51);have HP14:=Kd.R_putg HO230.1 (a0:Int) 1)|((with_reducible refine gate_store (t:=2) (p:=12) rfl ?_);refine store_event (t:=2) (p:=12) (v:=?vo_w15) (w1:=(w13.setCell ⟨go6,(a0:Int).toNat,none⟩ (.int .i64 1))) ?hg ?ho ?hn ?hr ?_;(case ho=>rfl);(case hg=>rfl);(case hn=>rfl);(case hr=>first|(go_simp;done)|(go_simp;rfl));intro w15 hw;have hg:w13.grownBy w15 (some go6):=(by rw [hw];exact HP14.2);have hp_:Kd.R (Kd.int .i64) 2 w15 w.heap.size (fun _=>True) (.slice (some ⟨go6,0,none⟩) y228.length co6) y232:=(by rw [hw,Ny232.1];exact HP14.1);clear HP14;have n0_:=qAm (hp_);have n1_:=qAm ((by rw [hw];exact below_set (HB.1) GB6.1:Below w.heap.size w w15));clear HO230;clear HB;have HO230:=n0_;have HB:=n1_;clear n0_ n1_;clear hg hw hp_));try simp only [Act.put,qSa,qSc,qSb]
            go_loopg [3,4] k (fun kq v3 v4 w'=>∃(x3_1:List Int) (x4_1:Int),v4=.int .i64 x4_1∧Aside0 (impl_cyclotomic.l0 kq a0 x3_1 x4_1=some r)∧Aside0 (kq≤k)∧Aside0 (Kd.R (Kd.int .i64) 2 w' w.heap.size (fun _=>True) v3 x3_1)∧Aside0 (Below w.heap.size w w'))
            case atStart=>exact⟨(y232),(1),qB52,H',⟨Nat.le_refl _⟩,⟨by (with_reducible repeat(first|apply Kd.R_alloc|apply Kd.R_drewN|apply Kd.R_drew));exact HO230.1⟩,⟨by repeat(first|(with_reducible first|exact HB.1|apply below_alloc|apply pw_below_drewN|apply below_drew1)|exact HB.1)⟩⟩
            case round=>
              clear H';try clear c1
              try clear p2
              try clear c3
              try clear c3b0
              try clear c3b1
              try clear c4
              try clear c4b0
              try clear c4b1
              try clear c5
              try clear c5b0
              try clear c5b1
              try clear p6
              try clear q6
              try clear hx6
              try clear qi6
              try clear hf6
              try clear c7
              try clear c7b0
              try clear c8
              try clear c8b0
              try clear p9
              try clear q9
              try clear hx9
              try clear hf9
              try clear c10
              try clear hx6_0
              try clear hx9_0
              try clear p6
              try clear p9
              try clear q6
              try clear q9
              obtain⟨x3_1,x4_1,rfl,HA,HK1,HO_3,HB⟩:=hrel;cases gk with
              |zero=>exact absurd HA.1 (by simp [impl_cyclotomic.l0])
              |succ k1=>
                have H:=HA.1;clear HA;simp only [impl_cyclotomic.l0] at H
                by_cases c16:x4_1<a0
                · rw [if_pos c16] at H
                  have c16b0:decide (x4_1<a0)=true:=decide_eq_true c16;clear c16
                  by_cases c17:x4_1=0
                  · rw [if_pos c17] at H
                    exact absurd H (by simp)
                  · rw [if_neg c17] at H
                    have c17b0:(x4_1==0)=false:=beq_eq_false_iff_ne.mpr c17;have c17b1:(x4_1 !=0)=true:=bne_iff_ne.mpr c17
                    by_cases c18:(Int.tmod a0 x4_1)=0
                    · rw [if_pos c18] at H
                      have c18b0:((Int.tmod a0 x4_1)==0)=true:=beq_iff_eq.mpr c18;have c18b1:((Int.tmod a0 x4_1) !=0)=false:=bne_eq_false_iff_eq.mpr c18;clear c18;replace H:=qOb H;obtain⟨t233,A190,H⟩:=H;replace H:((impl_quotient.f k1 x3_1 t233).bind fun t236=>(impl_cyclotomic.l0 k1 a0 t236 (wrap64 (x4_1+1))))=some r:=H;have A19:=qAm A190;clear A190;replace H:=qOb H;obtain⟨t236,A200,H⟩:=H;replace H:(impl_cyclotomic.l0 k1 a0 t236 (wrap64 (x4_1+1)))=some r:=H;have A20:=qAm A200;clear A200;have H':=qAm H;clear H;go_wp2_with (first|((with_reducible refine gate_callee (f:=108) rfl ?_);refine goesL_ (some 24) rfl rfl Try.func108 (by kernel_rfl) rfl #[.int .i64 x4_1] rfl qB17 ?_;(with_reducible refine(ih k1 (by have:=HK1.1;omega) x4_1 t233 _ A19.1).mono ?_);rintro e w21 ⟨v234,rfl,ho0,hb⟩;refine⟨_,rfl,?_⟩;have n0_:=qAm (Kd.R_elder' qB43 (Kd.R_base ho0) hb);have n1_:=qAm (Kd.R_lower (Kd.R_new' ho0 (Kd.R_lt qB43)) (below_size qB18));have n2_:=qAm (below_step qB18 hb);clear HO_3;clear HB;have HO_3:=n0_;have HO235:=n1_;have HB:=n2_;clear n0_ n1_ n2_;(try clear hb);(try clear hb2);(try clear hk);(try clear hi);(try clear ho0);obtain⟨Ao22,co22,eo22⟩:=Kd.R_slice HO_3.1;subst eo22;obtain⟨Ao23,co23,eo23⟩:=Kd.R_slice HO235.1;subst eo23)|((with_reducible refine gate_callee (f:=133) rfl ?_);refine goesL_ (some 25) rfl rfl Try.func133 (by kernel_rfl) rfl #[.slice Ao22 x3_1.length co22,.slice Ao23 t233.length co23] rfl qB17 ?_;(with_reducible refine(impl_quotient.calls k1 _ _ x3_1 _ _ t233 t236 _ ?side1 ?side2 ?side3 ?side4 A20.1).mono ?_);(case side1=>repeat(first|exact(Kd.R_reads' HO_3.1).2.2|(with_reducible refine Kd.C_alloc ?_ _)|(with_reducible refine Kd.C_drewN ?_ _)|(with_reducible refine Kd.C_drew ?_)));(case side2=>exact(Kd.R_reads' HO_3.1).2.1);(case side3=>repeat(first|exact(Kd.R_reads' HO235.1).2.2|(with_reducible refine Kd.C_alloc ?_ _)|(with_reducible refine Kd.C_drewN ?_ _)|(with_reducible refine Kd.C_drew ?_)));(case side4=>exact(Kd.R_reads' HO235.1).2.1);rintro e w24 ⟨v237,rfl,ho0,hb⟩;refine⟨_,rfl,?_⟩;have n0_:=qAm (Kd.R_elder' qB43 (Kd.R_base ho0) hb);have n1_:=qAm (Kd.R_elder' qB36 (Kd.R_base ho0) hb);have n2_:=qAm (Kd.R_lower (Kd.R_new' (Kd.R_new' ho0 (Kd.R_lt qB43)) (Kd.R_lt qB36)) (below_size qB18));have n3_:=qAm (below_step qB18 hb);clear HO_3;clear HO235;clear HB;have HO_3:=n0_;have HO235:=n1_;have HO238:=n2_;have HB:=n3_;clear n0_ n1_ n2_ n3_;(try clear hb);(try clear hb2);(try clear hk);(try clear hi);(try clear ho0)))
                      (first|go_roundg k1|((try simp only [add_plain] at *);go_roundg k1))
                      case measure=>have:=HK1.1;omega
                      case rel=>exact⟨(t236),(wrap64 (x4_1+1)),qB52,H',⟨by have:=HK1.1;omega⟩,⟨by (with_reducible repeat(first|apply Kd.R_alloc|apply Kd.R_drewN|apply Kd.R_drew));exact Kd.R_mono HO238.1 (fun _ hk=>trivial)⟩,⟨by repeat(first|(with_reducible first|exact HB.1|apply below_alloc|apply pw_below_drewN|apply below_drew1)|exact HB.1)⟩⟩
                    · rw [if_neg c18] at H
                      have c18b0:((Int.tmod a0 x4_1)==0)=false:=beq_eq_false_iff_ne.mpr c18;have c18b1:((Int.tmod a0 x4_1) !=0)=true:=bne_iff_ne.mpr c18;have H':=qAm H;clear H;go_wp2
                      (first|go_roundg k1|((try simp only [add_plain] at *);go_roundg k1))
                      case measure=>have:=HK1.1;omega
                      case rel=>exact⟨(x3_1),(wrap64 (x4_1+1)),qB52,H',⟨by have:=HK1.1;omega⟩,⟨by (with_reducible repeat(first|apply Kd.R_alloc|apply Kd.R_drewN|apply Kd.R_drew));exact HO_3.1⟩,⟨by repeat(first|(with_reducible first|exact HB.1|apply below_alloc|apply pw_below_drewN|apply below_drew1)|exact HB.1)⟩⟩
                · rw [if_neg c16] at H
                  have c16b0:decide (x4_1<a0)=false:=decide_eq_false c16;clear c16;obtain rfl:=Option.some.inj H;go_wp2;go_ret;exact⟨_,by first|rfl|(simp [errW_none,errW_some] <;> rfl)|(simp only [← hji2];first|rfl|(simp [errW_none,errW_some] <;> rfl))|(simp [*,errW_none,errW_some] <;> rfl),by (with_reducible repeat(first|apply Kd.R_alloc|apply Kd.R_drewN|apply Kd.R_drew));exact HO_3.1,by repeat(first|(with_reducible first|exact HB.1|apply below_alloc|apply pw_below_drewN|apply below_drew1)|exact HB.1)⟩
          · rw [if_neg c8] at H
            exact absurd H (by simp)
        · rw [if_neg c7] at H
          exact absurd H (by simp)
      · rw [if_neg c5] at H
        exact absurd H (by simp)
    · rw [if_neg c4] at H
      exact absurd H (by simp)
  · rw [if_neg c3] at H
    exact absurd H (by simp)

end Go.Proofs.Ytefhabkikaadiaa.PFnExactCycloAtResidues
