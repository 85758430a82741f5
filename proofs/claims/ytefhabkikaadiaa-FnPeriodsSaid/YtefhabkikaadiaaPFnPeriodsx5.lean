/- The functions that the law reaches, as plain functions, each with the proof that the program comes to it; no condition. Written by a program of this session (wip/mp.py) over the printing of the kit; what is marked HAND is told by hand. -/
import Derived.Test.YtefhabkikaadiaaPFnPeriodsx0
import Derived.Test.YtefhabkikaadiaaPFnPeriodsx1
import Derived.Test.YtefhabkikaadiaaPFnPeriodsx2
import Derived.Test.YtefhabkikaadiaaPFnPeriodsx4
namespace Go.Proofs.Ytefhabkikaadiaa.PFnPeriods
open Go.RowKit Go.Proofs.YtefhabkikaadiaaW.PrintWords Go.Proofs.YtefhabkikaadiaaW.PrintLast Go.Proofs.YtefhabkikaadiaaW.PrintMore
attribute [local go_sem] max2_int min2_int max_two min_two max_three min_three max_four min_four   -- for this text's walks alone
set_option linter.unusedVariables false
set_option linter.unusedSimpArgs false

/-! ### spec_l06Table: function 93 -/
mutual
def spec_l06Table.l0:Nat→Int→Int→List Int→List (List Int)→Int→Option ((List (List Int)))
  |0,_,_,_,_,_=>none
  |k+1,x0,x1,x5,x6,x7=>if x7<x1 then (if 0≤x1 then (if (x1:Int).toNat≤35184372088832 then (if x6.length<5864062014805 then (spec_l06Table.l0 k x0 x1 x5 (x6 ++ [(List.replicate (x1:Int).toNat 0)]) (wrap64 (x7+1))) else (none)) else (none)) else (none)) else (spec_l06Table.l1 k x0 x1 x5 x6 1)
def spec_l06Table.l1:Nat→Int→Int→List Int→List (List Int)→Int→Option ((List (List Int)))
  |0,_,_,_,_,_=>none
  |k+1,x0,x1,x5,x6,x8=>if x8<(wrap64 (x0 - 1)) then (if 0≤x8 then (if x8<(x5.length:Int) then (if x1=0 then (none) else (if 0≤(Int.tmod (rd x5 x8) x1) then (if (Int.tmod (rd x5 x8) x1)<(x6.length:Int) then (if 0≤(wrap64 (x8+1)) then (if (wrap64 (x8+1))<(x5.length:Int) then (if 0≤(Int.tmod (rd x5 (wrap64 (x8+1))) x1) then (if (Int.tmod (rd x5 (wrap64 (x8+1))) x1)<((rd_L2 x6 (Int.tmod (rd x5 x8) x1)).length:Int) then (spec_l06Table.l1 k x0 x1 x5 (x6.set ((Int.tmod (rd x5 x8) x1):Int).toNat ((rd_L2 x6 (Int.tmod (rd x5 x8) x1)).set ((Int.tmod (rd x5 (wrap64 (x8+1))) x1):Int).toNat (wrap64 ((rd (rd_L2 x6 (Int.tmod (rd x5 x8) x1)) (Int.tmod (rd x5 (wrap64 (x8+1))) x1))+1)))) (wrap64 (x8+1))) else (none)) else (none)) else (none)) else (none)) else (none)) else (none))) else (none)) else (none)) else (some x6)
end
def spec_l06Table.f (k:Nat) (a0:Int) (a1:Int):Option ((List (List Int))):=(spec_l06Indices.f k a0).bind fun t211=>(spec_l06Table.l0 k a0 a1 t211 (([]:List (List Int))) 0)
theorem spec_l06Table.mono_l:∀k,(∀y0 y1 y2 y3 y4,LeO (spec_l06Table.l0 k y0 y1 y2 y3 y4) (spec_l06Table.l0 (k+1) y0 y1 y2 y3 y4))∧(∀y0 y1 y2 y3 y4,LeO (spec_l06Table.l1 k y0 y1 y2 y3 y4) (spec_l06Table.l1 (k+1) y0 y1 y2 y3 y4))
  |0=>⟨fun _ _ _ _ _ r h=>by simp [spec_l06Table.l0] at h,fun _ _ _ _ _ r h=>by simp [spec_l06Table.l1] at h⟩
  |k+1=>by
    obtain⟨ih0,ih1⟩:=spec_l06Table.mono_l k;refine⟨?_,?_⟩
    · intro y0 y1 y2 y3 y4
      unfold spec_l06Table.l0;repeat' first
      |(with_reducible exact ih0 _ _ _ _ _)
      |(with_reducible exact ih1 _ _ _ _ _)
      |(with_reducible exact spec_l06Indices.mono _ _)
      |(with_reducible exact LeO.refl _)
      |(with_reducible exact LeO.none _)
      |(with_reducible refine LeO.ite ?_ ?_)
      |(with_reducible refine LeO.bind ?_ (fun _=>?_))
      |exact ih0 _ _ _ _ _
      |exact ih1 _ _ _ _ _
      |exact spec_l06Indices.mono _ _
      |exact LeO.none _
      |refine LeO.ite ?_ ?_
      |refine LeO.bind ?_ (fun _=>?_)
    · intro y0 y1 y2 y3 y4
      unfold spec_l06Table.l1;repeat' first
      |(with_reducible exact ih0 _ _ _ _ _)
      |(with_reducible exact ih1 _ _ _ _ _)
      |(with_reducible exact spec_l06Indices.mono _ _)
      |(with_reducible exact LeO.refl _)
      |(with_reducible exact LeO.none _)
      |(with_reducible refine LeO.ite ?_ ?_)
      |(with_reducible refine LeO.bind ?_ (fun _=>?_))
      |exact ih0 _ _ _ _ _
      |exact ih1 _ _ _ _ _
      |exact spec_l06Indices.mono _ _
      |exact LeO.none _
      |refine LeO.ite ?_ ?_
      |refine LeO.bind ?_ (fun _=>?_)
theorem spec_l06Table.mono:∀a0 a1 k,LeO (spec_l06Table.f k a0 a1) (spec_l06Table.f (k+1) a0 a1):=by
  intro a0 a1 k;obtain⟨ih0,ih1⟩:=spec_l06Table.mono_l k;unfold spec_l06Table.f;repeat' first
      |(with_reducible exact ih0 _ _ _ _ _)
      |(with_reducible exact ih1 _ _ _ _ _)
      |(with_reducible exact spec_l06Indices.mono _ _)
      |(with_reducible exact LeO.refl _)
      |(with_reducible exact LeO.none _)
      |(with_reducible refine LeO.ite ?_ ?_)
      |(with_reducible refine LeO.bind ?_ (fun _=>?_))
      |exact ih0 _ _ _ _ _
      |exact ih1 _ _ _ _ _
      |exact spec_l06Indices.mono _ _
      |exact LeO.none _
      |refine LeO.ite ?_ ?_
      |refine LeO.bind ?_ (fun _=>?_)
set_option maxHeartbeats 8000000 in
set_option maxRecDepth 100000 in
theorem spec_l06Table.calls (k:Nat) (a0:Int) (a1:Int) (r:List (List Int)) (w:World) (h:spec_l06Table.f k a0 a1=some r):
    Calls Try.prog 93 #[.int .i64 a0,.int .i64 a1] w fun e w'=>∃v0_:Value,e=.returned (v0_)∧Kd.S (Kd.slice 2 (Kd.int .i64)) 22 w' w.heap.size (fun _=>True) v0_ r∧Below w.heap.size w w':=by
  have HB:=qAm (Below.refl w.heap.size w);have H:((spec_l06Indices.f k a0).bind fun t211=>(spec_l06Table.l0 k a0 a1 t211 (([]:List (List Int))) 0))=some r:=h;clear h;replace H:=qOb H;obtain⟨t211,A30,H⟩:=H;replace H:(spec_l06Table.l0 k a0 a1 t211 (([]:List (List Int))) 0)=some r:=H;have A3:=qAm A30;clear A30;obtain⟨y214,hy214⟩:∃y_:List (List Int),y_=(([]:List (List Int))):=⟨_,rfl⟩
  replace H:(spec_l06Table.l0 k a0 a1 t211 y214 0)=some r:=by first|(rw [hy214];with_reducible exact H)|(have H2_:=(Option.bind_some _ _).symm.trans H;rw [hy214];with_reducible exact H2_)|(have H2_:=(Option.bind_some _ _).symm.trans H;with_reducible exact H2_)|with_reducible exact H|(rw [hy214];exact H)|exact H
  have Ny214:=qAm hy214;clear hy214;have H':=qAm H;clear H;go_enter Try.func93,Try.ntmps93;go_wp2_with (first|((with_reducible refine gate_callee (f:=95) rfl ?_);refine goesL_ (some 11) rfl rfl Try.func95 (by kernel_rfl) rfl #[.int .i64 a0] rfl qB19 ?_;(with_reducible refine(spec_l06Indices.calls k a0 t211 _ A3.1).mono ?_);rintro e w4 ⟨v212,rfl,ho0,hb⟩;refine⟨_,rfl,?_⟩;have n0_:=qAm (Kd.R_lower ho0 (below_size qB23));have n1_:=qAm (below_step qB23 hb);clear HB;have HO213:=n0_;have HB:=n1_;clear n0_ n1_;(try clear hb);(try clear hb2);(try clear hk);(try clear hi);(try clear ho0))|((with_reducible refine gate_dst (N:=12) rfl ?_);refine Kd.S_lit (Kd.slice 2 (Kd.int .i64)) _ 22 ?hg (N:=12) ?hd (xs:=([]:List (List Int))) (inner:=[]) (ok:=fun _=>True) (okp:=fun _=>True) ?hr ?hp (fun _ hk=>hk) trivial (Below.refl _ _) (Nat.le_refl _) (by simp) ?_;(case hd=>rfl);(case hg=>rfl);(case hr=>first|(go_simp;done)|(go_simp;rfl));(case hp=>exact(Reps.none _ _));intro v215 w5 ho6 hb hg_ hnew_;clear hg_ hnew_;(first|rw [← Ny214.1] at ho6|(simp only [Int.reduceToNat] at ho6;rw [← Ny214.1] at ho6));have n0_:=qAm (Kd.R_below qB32 hb);have n1_:=qAm (Kd.S_lower (Kd.S_new' ho6 (Kd.R_lt qB32)) (below_size qB23));have n2_:=qAm (below_step qB23 hb);clear HO213;clear HB;have HO213:=n0_;have HO216:=n1_;have HB:=n2_;clear n0_ n1_ n2_;clear hb ho6));try simp only [Act.put,qSa,qSc,qSb]
  go_loopg [6,7] k (fun kq v6 v7 w'=>∃(x6_1:List (List Int)) (x7_1:Int),v7=.int .i64 x7_1∧Aside0 (spec_l06Table.l0 kq a0 a1 t211 x6_1 x7_1=some r)∧Aside0 (kq≤k)∧Aside0 (Kd.R (Kd.int .i64) 2 w' w.heap.size (fun _=>True) v212 t211)∧Aside0 (Kd.S (Kd.slice 2 (Kd.int .i64)) 22 w' w.heap.size (fun k_=>some k_≠(v212:Value).ownBlock) v6 x6_1)∧Aside0 (Below w.heap.size w w'))
  case atStart=>exact⟨(y214),(0),qB57,H',⟨Nat.le_refl _⟩,⟨by (with_reducible repeat(first|apply Kd.R_alloc|apply Kd.R_drewN|apply Kd.R_drew));exact HO213.1⟩,⟨by (with_reducible repeat(first|apply Kd.S_alloc|apply Kd.S_drewN|apply Kd.S_drew));exact Kd.S_mono HO216.1 (fun _ hk=>hk.2)⟩,⟨by repeat(first|(with_reducible first|exact HB.1|apply below_alloc|apply pw_below_drewN|apply below_drew1)|exact HB.1)⟩⟩
  case round=>
    clear H';try clear p2
    obtain⟨x6_1,x7_1,rfl,HA,HK1,HO_5,HO_6,HB⟩:=hrel;cases gk with
    |zero=>exact absurd HA.1 (by simp [spec_l06Table.l0])
    |succ k1=>
      have H:=HA.1;clear HA;simp only [spec_l06Table.l0] at H
      by_cases c7:x7_1<a1
      · rw [if_pos c7] at H
        have c7b0:decide (x7_1<a1)=true:=decide_eq_true c7;clear c7
        by_cases c8:0≤a1
        · rw [if_pos c8] at H
          have c8b0:=eq_true c8;have c8b1:decide (0≤a1)=true:=decide_eq_true c8;clear c8
          by_cases c9:(a1:Int).toNat≤35184372088832
          · rw [if_pos c9] at H
            have c9b0:=eq_true c9;have c9b1:decide ((a1:Int).toNat≤35184372088832)=true:=decide_eq_true c9;clear c9;obtain⟨y217,hy217⟩:∃y_:List Int,y_=(List.replicate (a1:Int).toNat 0):=⟨_,rfl⟩
            replace H:(if x6_1.length<5864062014805 then (spec_l06Table.l0 k1 a0 a1 t211 (x6_1 ++ [y217]) (wrap64 (x7_1+1))) else (none))=some r:=by first|(rw [hy217];with_reducible exact H)|(have H2_:=(Option.bind_some _ _).symm.trans H;rw [hy217];with_reducible exact H2_)|(have H2_:=(Option.bind_some _ _).symm.trans H;with_reducible exact H2_)|with_reducible exact H|(rw [hy217];exact H)|exact H
            have Ny217:=qAm hy217;clear hy217
            by_cases c10:x6_1.length<5864062014805
            · rw [if_pos c10] at H
              have LMc10:=qAm c10;clear c10;obtain⟨y220,hy220⟩:∃y_:List (List Int),y_=(x6_1 ++ [y217]):=⟨_,rfl⟩
              replace H:(spec_l06Table.l0 k1 a0 a1 t211 y220 (wrap64 (x7_1+1)))=some r:=by first|(rw [hy220];with_reducible exact H)|(have H2_:=(Option.bind_some _ _).symm.trans H;rw [hy220];with_reducible exact H2_)|(have H2_:=(Option.bind_some _ _).symm.trans H;with_reducible exact H2_)|with_reducible exact H|(rw [hy220];exact H)|exact H
              have Ny220:=qAm hy220;clear hy220;have H':=qAm H;clear H;go_wp2_with (first|((with_reducible refine gate_dst (N:=20) rfl ?_);refine Kd.R_make (Kd.int .i64) _ 2 rfl (N:=20) rfl 22 _ _ rfl a1 rfl rfl Try.underlying22 (.int .i64 0) 8 info2 rfl (by decide) (by omega) 0 (ok:=fun _=>True) (okp:=fun _=>True) rfl (fun _ hk=>hk) trivial (of_decide_eq_true qB56) (Nat.le_trans (Nat.mul_le_mul_right _ (of_decide_eq_true qB56:a1.toNat≤35184372088832)) (by omega)) (Below.refl _ _) (Nat.le_refl _) ?_;intro v218 w11 ho12 hb hg_ hnew_;clear hg_ hnew_;(first|rw [← Ny217.1] at ho12|(simp only [Int.reduceToNat] at ho12;rw [← Ny217.1] at ho12));have n0_:=qAm (Kd.R_elder' qB50 (Kd.R_base ho12) hb);have n1_:=qAm (Kd.S_elder' qB51 (Kd.R_base ho12) hb);have n2_:=qAm (Kd.R_lower (Kd.R_new' ho12 (Kd.R_lt qB50)) (below_size qB23));have n3_:=qAm (below_step qB23 hb);clear HO_5;clear HO_6;clear HB;have HO_5:=n0_;have HO_6:=n1_;have HO219:=n2_;have HB:=n3_;clear n0_ n1_ n2_ n3_;clear hb ho12;obtain⟨Ao14,co14,eo14⟩:=Kd.R_slice HO219.1;subst eo14)|((with_reducible refine gate_builtin (b:=.append) (xs:=#[.tmp 18,.tmp 21]) rfl ?_);at_builtin;refine Kd.S_append (Kd.slice 2 (Kd.int .i64)) (w0:=w) w.heap.size rfl (.tmp 18) (.tmp 21) 57 22 (.slice none 0 0) 24 rfl Try.underlying57 info22 rfl (by decide) (by omega) u6 x6_1 y217 [.slice Ao14 y217.length co14] (fun k_=>some k_≠(v212:Value).ownBlock) (fun k_=>some k_=(.slice Ao14 y217.length co14:Value).ownBlock) rfl rfl ?aP (fun k_ hk_=>((Kd.R_mono (ok':=fun k_=>((fun k_=>some k_≠(v212:Value).ownBlock)) k_∧some k_≠(u6:Value).ownBlock) (Kd.R_apart' (HO219.1) (Kd.S_typed HO_6.1) (by decide)) (fun k_ hk=>⟨hk.1.2,hk.2⟩))).1 k_ hk_.symm) ?aF ?aO ?aB ?aS ?aL ?_;(case aP=>exact Kd.M_row (Kd.R_mono (Kd.R_tight rfl (Kd.R_mono (ok':=fun k_=>((fun k_=>some k_≠(v212:Value).ownBlock)) k_∧some k_≠(u6:Value).ownBlock) (Kd.R_apart' (HO219.1) (Kd.S_typed HO_6.1) (by decide)) (fun k_ hk=>⟨hk.1.2,hk.2⟩))) (fun _ h_=>h_)));(case aB=>exact qB23);(case aF=>exact(fun k_ hk=>Kd.fresh' (Kd.R_lt qB50) k_ hk));(case aO=>exact(by (with_reducible repeat(first|apply Kd.S_alloc|apply Kd.S_drewN|apply Kd.S_drew));exact Kd.S_mono HO_6.1 (fun k_ hk=>⟨hk.1,fun e_=>hk.2 e_⟩)));(case aS=>exact(below_size qB23));(case aL=>have:=LMc10.1;omega);intro v221 w13 ho hb hg hat;rw [← Ny220.1] at ho;have n0_:=qAm (Kd.R_over' qB50 (Kd.S_typed qB51) (by decide) hg);have n1_:=qAm (hb);have n2_:=qAm (ho);clear HO_5;clear HB;clear HO_6;clear HO219;have HO_5:=n0_;have HB:=n1_;have HO222:=n2_;clear n0_ n1_ n2_;clear ho hb hg hat))
              (first|go_roundg k1|((try simp only [add_plain] at *);go_roundg k1))
              case measure=>have:=HK1.1;omega
              case rel=>exact⟨(y220),(wrap64 (x7_1+1)),qB57,H',⟨by have:=HK1.1;omega⟩,⟨by (with_reducible repeat(first|apply Kd.R_alloc|apply Kd.R_drewN|apply Kd.R_drew));exact Kd.R_mono HO_5.1 (fun _ hk=>trivial)⟩,⟨by (with_reducible repeat(first|apply Kd.S_alloc|apply Kd.S_drewN|apply Kd.S_drew));exact HO222.1⟩,⟨by repeat(first|(with_reducible first|exact HB.1|apply below_alloc|apply pw_below_drewN|apply below_drew1)|exact HB.1)⟩⟩
            · rw [if_neg c10] at H
              exact absurd H (by simp)
          · rw [if_neg c9] at H
            exact absurd H (by simp)
        · rw [if_neg c8] at H
          exact absurd H (by simp)
      · rw [if_neg c7] at H
        have c7b0:decide (x7_1<a1)=false:=decide_eq_false c7;clear c7;have H':=qAm H;clear H;go_wp2;try simp only [Act.put,qSa,qSc,qSb]
        go_loopg [8] k1 (fun kq v8 w'=>∃(x5_2:List Int) (x6_2:List (List Int)) (x8_2:Int),v8=.int .i64 x8_2∧Aside0 (spec_l06Table.l1 kq a0 a1 x5_2 x6_2 x8_2=some r)∧Aside0 (kq≤k1)∧Aside0 (Kd.R (Kd.int .i64) 2 w' w.heap.size (fun _=>True) v212 x5_2)∧Aside0 (Kd.S (Kd.slice 2 (Kd.int .i64)) 22 w' w.heap.size (fun k_=>some k_≠(v212:Value).ownBlock) u6 x6_2)∧Aside0 (Below w.heap.size w w'))
        case atStart=>exact⟨(t211),(x6_1),(1),qB57,H',⟨Nat.le_refl _⟩,⟨by (with_reducible repeat(first|apply Kd.R_alloc|apply Kd.R_drewN|apply Kd.R_drew));exact HO_5.1⟩,⟨by (with_reducible repeat(first|apply Kd.S_alloc|apply Kd.S_drewN|apply Kd.S_drew));exact HO_6.1⟩,⟨by repeat(first|(with_reducible first|exact HB.1|apply below_alloc|apply pw_below_drewN|apply below_drew1)|exact HB.1)⟩⟩
        case round=>
          clear H';try clear c1
          try clear p2
          try clear p6
          try clear c7
          try clear c7b0
          try clear c8
          try clear c8b0
          try clear c8b1
          try clear c9
          try clear c9b0
          try clear c9b1
          try clear c10
          try clear p2
          obtain⟨x5_2,x6_2,x8_2,rfl,HA,HK2,HO_5,HO_6,HB⟩:=hrel;cases gk with
          |zero=>exact absurd HA.1 (by simp [spec_l06Table.l1])
          |succ k2=>
            have H:=HA.1;clear HA;simp only [spec_l06Table.l1] at H
            by_cases c15:x8_2<(wrap64 (a0 - 1))
            · rw [if_pos c15] at H
              have c15b0:decide (x8_2<(wrap64 (a0 - 1)))=true:=decide_eq_true c15;clear c15
              by_cases c16:0≤x8_2
              · rw [if_pos c16] at H
                have c16b0:decide (0≤x8_2)=true:=decide_eq_true c16;clear c16
                by_cases c17:x8_2<(x5_2.length:Int)
                · rw [if_pos c17] at H
                  have c17b0:decide (x8_2<(x5_2.length:Int))=true:=decide_eq_true c17;clear c17
                  by_cases c18:a1=0
                  · rw [if_pos c18] at H
                    exact absurd H (by simp)
                  · rw [if_neg c18] at H
                    have c18b0:(a1==0)=false:=beq_eq_false_iff_ne.mpr c18;have c18b1:(a1 !=0)=true:=bne_iff_ne.mpr c18;obtain⟨ji19,hji19⟩:∃j_:Int,(Int.tmod (rd x5_2 x8_2) a1)=j_:=⟨_,rfl⟩
                    replace H:(if 0≤(ji19) then (if (ji19)<(x6_2.length:Int) then (if 0≤(wrap64 (x8_2+1)) then (if (wrap64 (x8_2+1))<(x5_2.length:Int) then (if 0≤(Int.tmod (rd x5_2 (wrap64 (x8_2+1))) a1) then (if (Int.tmod (rd x5_2 (wrap64 (x8_2+1))) a1)<((rd_L2 x6_2 (ji19)).length:Int) then (spec_l06Table.l1 k2 a0 a1 x5_2 (x6_2.set ((ji19):Int).toNat ((rd_L2 x6_2 (ji19)).set ((Int.tmod (rd x5_2 (wrap64 (x8_2+1))) a1):Int).toNat (wrap64 ((rd (rd_L2 x6_2 (ji19)) (Int.tmod (rd x5_2 (wrap64 (x8_2+1))) a1))+1)))) (wrap64 (x8_2+1))) else (none)) else (none)) else (none)) else (none)) else (none)) else (none))=some r:=by first|(rw [hji19] at H;exact H)|(simp only [hji19] at H ⊢;exact H)
                    by_cases c20:0≤(ji19)
                    · rw [if_pos c20] at H
                      have c20b0:decide (0≤(ji19))=true:=decide_eq_true c20;clear c20
                      by_cases c21:(ji19)<(x6_2.length:Int)
                      · rw [if_pos c21] at H
                        have c21b0:decide ((ji19)<(x6_2.length:Int))=true:=decide_eq_true c21;clear c21;obtain⟨ji22,hji22⟩:∃j_:Int,(wrap64 (x8_2+1))=j_:=⟨_,rfl⟩
                        replace H:(if 0≤(ji22) then (if (ji22)<(x5_2.length:Int) then (if 0≤(Int.tmod (rd x5_2 (ji22)) a1) then (if (Int.tmod (rd x5_2 (ji22)) a1)<((rd_L2 x6_2 (ji19)).length:Int) then (spec_l06Table.l1 k2 a0 a1 x5_2 (x6_2.set ((ji19):Int).toNat ((rd_L2 x6_2 (ji19)).set ((Int.tmod (rd x5_2 (ji22)) a1):Int).toNat (wrap64 ((rd (rd_L2 x6_2 (ji19)) (Int.tmod (rd x5_2 (ji22)) a1))+1)))) ji22) else (none)) else (none)) else (none)) else (none))=some r:=by first|(rw [hji22] at H;exact H)|(simp only [hji22] at H ⊢;exact H)
                        have hji22w:(IntKind.i64.wrap (x8_2+1))=ji22:=(i64_w _).trans hji22
                        by_cases c23:0≤(ji22)
                        · rw [if_pos c23] at H
                          have c23b0:decide (0≤(ji22))=true:=decide_eq_true c23;clear c23
                          by_cases c24:(ji22)<(x5_2.length:Int)
                          · rw [if_pos c24] at H
                            have c24b0:decide ((ji22)<(x5_2.length:Int))=true:=decide_eq_true c24;clear c24;obtain⟨ji25,hji25⟩:∃j_:Int,(Int.tmod (rd x5_2 (ji22)) a1)=j_:=⟨_,rfl⟩
                            replace H:(if 0≤(ji25) then (if (ji25)<((rd_L2 x6_2 (ji19)).length:Int) then (spec_l06Table.l1 k2 a0 a1 x5_2 (x6_2.set ((ji19):Int).toNat ((rd_L2 x6_2 (ji19)).set ((ji25):Int).toNat (wrap64 ((rd (rd_L2 x6_2 (ji19)) (ji25))+1)))) ji22) else (none)) else (none))=some r:=by first|(rw [hji25] at H;exact H)|(simp only [hji25] at H ⊢;exact H)
                            by_cases c26:0≤(ji25)
                            · rw [if_pos c26] at H
                              have c26b0:decide (0≤(ji25))=true:=decide_eq_true c26;clear c26
                              by_cases c27:(ji25)<((rd_L2 x6_2 (ji19)).length:Int)
                              · rw [if_pos c27] at H
                                have c27b0:decide ((ji25)<((rd_L2 x6_2 (ji19)).length:Int))=true:=decide_eq_true c27;clear c27;obtain⟨y227,hy227⟩:∃y_:List Int,y_=((rd_L2 x6_2 (ji19)).set ((ji25):Int).toNat (wrap64 ((rd (rd_L2 x6_2 (ji19)) (ji25))+1))):=⟨_,rfl⟩
                                replace H:(spec_l06Table.l1 k2 a0 a1 x5_2 (x6_2.set ((ji19):Int).toNat y227) ji22)=some r:=by first|(rw [hy227];with_reducible exact H)|(have H2_:=(Option.bind_some _ _).symm.trans H;rw [hy227];with_reducible exact H2_)|(have H2_:=(Option.bind_some _ _).symm.trans H;with_reducible exact H2_)|with_reducible exact H|(rw [hy227];exact H)|exact H
                                have Ny227:=qAm hy227;clear hy227;obtain⟨y229,hy229⟩:∃y_:List (List Int),y_=(x6_2.set ((ji19):Int).toNat y227):=⟨_,rfl⟩
                                replace H:(spec_l06Table.l1 k2 a0 a1 x5_2 y229 ji22)=some r:=by first|(rw [hy229];with_reducible exact H)|(have H2_:=(Option.bind_some _ _).symm.trans H;rw [hy229];with_reducible exact H2_)|(have H2_:=(Option.bind_some _ _).symm.trans H;with_reducible exact H2_)|with_reducible exact H|(rw [hy229];exact H)|exact H
                                have Ny229:=qAm hy229;clear hy229;have H':=qAm H;clear H;obtain⟨Ao29,co29,eo29⟩:=Kd.R_slice HO_5.1;subst eo29;have p223:0≤(x8_2:Int):=of_decide_eq_true qB56;have q223:x8_2<(x5_2.length:Int):=of_decide_eq_true qB56;obtain⟨ad223,e223,hx223_0⟩:=Kd.at_int (Kd.R_reads' HO_5.1).2.2 x8_2 p223 q223;cases e223
                                replace p223:=eq_true p223;replace q223:=eq_true q223;obtain⟨Ao30,co30,eo30⟩:=Kd.S_slice HO_6.1;subst eo30;have p224:0≤((ji19):Int):=of_decide_eq_true qB56;have q224:(ji19)<(x6_2.length:Int):=of_decide_eq_true qB56;obtain⟨ad224,A224_0,c224_0,e224,hx224_0,hl224_0,hi224_0⟩:=at_L2 (Kd.S_reads' HO_6.1).2.2 (ji19) p224 q224;cases e224
                                obtain⟨ce224,hce224,hMe224,hcc224⟩:=Kd.S_get HO_6.1 [] (ji19) p224 (by first|exact q224|exact of_decide_eq_true qB56|(have e_:=(Kd.S_reads' HO_6.1).1;omega));obtain⟨ve224_0,rfl,ge224_0⟩:=hMe224;have hv224_0:=hcc224 0 _ rfl;rw [Nat.add_zero,show((Kd.slice 2 (Kd.int .i64))).sz=1 from rfl,Nat.mul_one] at hv224_0;replace hv224_0:=Option.some.inj (hv224_0.symm.trans hx224_0);rw [hv224_0] at ge224_0;have HL224_0:=qAm (show Kd.R (Kd.int .i64) 2 _ _ _ _ (rd_L2 x6_2 (ji19)) from ge224_0);clear hv224_0 ge224_0;have HX224_0:=qAm hx224_0;clear hcc224 hce224;have HR224_0:=qAm hi224_0;have HC224_0:=qAm hl224_0;clear hi224_0 hl224_0;replace p224:=eq_true p224;replace q224:=eq_true q224;have p225:0≤((ji22):Int):=of_decide_eq_true qB56;have q225:(ji22)<(x5_2.length:Int):=of_decide_eq_true qB56;obtain⟨ad225,e225,hx225_0⟩:=Kd.at_int (Kd.R_reads' HO_5.1).2.2 (ji22) p225 q225;obtain rfl:ad223=ad225:=(by injection e225)
                                replace p225:=eq_true p225;replace q225:=eq_true q225;have p226:0≤((ji25):Int):=of_decide_eq_true qB56;have q226:(ji25)<((rd_L2 x6_2 (ji19)).length:Int):=of_decide_eq_true qB56;obtain⟨ad226,e226,hx226_0⟩:=Kd.at_int (by repeat(first|(with_reducible exact HR224_0.1)|(with_reducible refine Kd.C_alloc ?_ _)|(with_reducible refine Kd.C_drewN ?_ _)|(with_reducible refine Kd.C_drew ?_)|exact HR224_0.1)) (ji25) p226 q226;cases e226
                                replace p226:=eq_true p226;replace q226:=eq_true q226;have p28:0≤((ji25):Int):=of_decide_eq_true qB56;have q28:((ji25):Int)<(((rd_L2 x6_2 (ji19)).length:Int):Int):=of_decide_eq_true qB56;obtain⟨go28,co28,eo28,gb28,gl28,cl28,HG28⟩:=Kd.R_form HL224_0.1 (by omega)
                                (first|cases eo28|(injection eo28 with ea_ en_ ec_;(first|subst ea_|(injection ea_ with ea_;subst ea_));subst ec_;clear en_))
                                have GB28:=qAm gb28;have GG28:=qAm HG28;clear gb28 gl28 HG28
                                (first|simp only [add_plain] at hx226_0|skip)
                                obtain⟨hx28_0,hf28_0⟩:=Kd.R_celln 0 HL224_0.1 ((ji25):Int) p28 q28;replace p28:=eq_true p28;replace q28:=eq_true q28;have hq31:((ji19):Int)<(x6_2.length:Int):=(by have h_:((ji19):Int)<((x6_2.length:Int):Int):=of_decide_eq_true qB56;first|exact h_|(have e_:=(Kd.S_reads' HO_6.1).1;omega)|simpa only [List.length_set,List.length_set] using h_)
                                obtain⟨oki31,ce31,hcl31,hM31,hcc31,hok31,hbk31⟩:=Kd.S_borrow HO_6.1 [] ((ji19):Int) (of_decide_eq_true qB56) hq31;obtain⟨ve31_0,rfl,ge31_0⟩:=hM31;have hv31:=hcc31 0 _ rfl;rw [Nat.add_zero,show((Kd.slice 2 (Kd.int .i64))).sz=1 from rfl,Nat.mul_one] at hv31;replace hv31:=Option.some.inj (hv31.symm.trans HX224_0.1);subst hv31;clear hcc31 hcl31;replace ge31_0:=(show Kd.R (Kd.int .i64) 2 _ _ _ _ (rd_L2 x6_2 (ji19)) from ge31_0)
                                have HP31:=Kd.R_putg ge31_0 ((ji25):Int) (wrap64 ((rd (rd_L2 x6_2 (ji19)) (ji25))+1));go_wp2_with (first|((with_reducible refine gate_store (t:=2) (p:=49) rfl ?_);refine store_event (t:=2) (p:=49) (v:=?vo_w32) (w1:=(wr.setCell ⟨go28,((ji25):Int).toNat,none⟩ (.int .i64 (wrap64 ((rd (rd_L2 x6_2 (ji19)) (ji25))+1))))) ?hg ?ho ?hn ?hr ?_;(case ho=>rfl);(case hg=>rfl);(case hn=>rfl);(case hr=>first|(go_simp;done)|(go_simp;rfl));intro w32 hw;have hg:wr.grownBy w32 (some go28):=(by rw [hw];exact HP31.2);have hz_:Kd.R (Kd.int .i64) 2 w32 w.heap.size oki31 (.slice (some ⟨go28,0,none⟩) (rd_L2 x6_2 (ji19)).length c224_0) y227:=(by rw [hw,Ny227.1];exact HP31.1);have hp_:Kd.S (Kd.slice 2 (Kd.int .i64)) 22 w32 w.heap.size (fun k_=>some k_≠(.slice (some ad223) x5_2.length co29:Value).ownBlock) (.slice (some ad224) x6_2.length co30) y229:=(by rw [Ny229.1];exact hbk31 hg (fun k_ e_=>by injection e_ with e_;subst e_;exact ge31_0.1 _ rfl) (Kd.M_row hz_));have hm_:=Kd.R_mono hz_ hok31;clear HP31 hbk31;have n0_:=qAm (Kd.R_grown1 qB50 rfl hg ((HL224_0.1.1 _ rfl).1));have n1_:=qAm (hp_);have n2_:=qAm ((by rw [hw];exact below_set (HB.1) GB28.1:Below w.heap.size w w32));have n3_:=qAm (hm_);have n4_:=qAm ((Kd.R_reads' hm_).2.1);clear HO_5;clear HO_6;clear HB;clear HL224_0;have HO_5:=n0_;have HO_6:=n1_;have HB:=n2_;have HL230:=n3_;have HC228:=n4_;clear n0_ n1_ n2_ n3_ n4_;clear hg hw hp_ hz_ hm_ hok31))
                                (first|go_roundg k2|((try simp only [add_plain] at *);go_roundg k2))
                                case measure=>have:=HK1.1;have:=HK2.1;omega
                                case rel=>exact⟨(x5_2),(y229),(ji22),(by first|rfl|(simp;done)|(simp only [← hji22] <;> (first|rfl|simp))|(simp [*];done)),H',⟨by have:=HK1.1;have:=HK2.1;omega⟩,⟨by (with_reducible repeat(first|apply Kd.R_alloc|apply Kd.R_drewN|apply Kd.R_drew));exact HO_5.1⟩,⟨by (with_reducible repeat(first|apply Kd.S_alloc|apply Kd.S_drewN|apply Kd.S_drew));exact HO_6.1⟩,⟨by repeat(first|(with_reducible first|exact HB.1|apply below_alloc|apply pw_below_drewN|apply below_drew1)|exact HB.1)⟩⟩
                              · rw [if_neg c27] at H
                                exact absurd H (by simp)
                            · rw [if_neg c26] at H
                              exact absurd H (by simp)
                          · rw [if_neg c24] at H
                            exact absurd H (by simp)
                        · rw [if_neg c23] at H
                          exact absurd H (by simp)
                      · rw [if_neg c21] at H
                        exact absurd H (by simp)
                    · rw [if_neg c20] at H
                      exact absurd H (by simp)
                · rw [if_neg c17] at H
                  exact absurd H (by simp)
              · rw [if_neg c16] at H
                exact absurd H (by simp)
            · rw [if_neg c15] at H
              have c15b0:decide (x8_2<(wrap64 (a0 - 1)))=false:=decide_eq_false c15;clear c15;obtain rfl:=Option.some.inj H;go_wp2;go_ret;exact⟨_,by first|rfl|(simp [errW_none,errW_some] <;> rfl)|(simp [*,errW_none,errW_some] <;> rfl),by (with_reducible repeat(first|apply Kd.S_alloc|apply Kd.S_drewN|apply Kd.S_drew));exact Kd.S_mono HO_6.1 (fun _ hk=>trivial),by repeat(first|(with_reducible first|exact HB.1|apply below_alloc|apply pw_below_drewN|apply below_drew1)|exact HB.1)⟩

/-! ### spec_CyclotomicTable: function 35 -/
def spec_CyclotomicTable.f (k:Nat) (a0:Int) (a1:Int):Option ((List (List Int))×Int):=(spec_l06Code.f k a0 a1 ([]:List Int)).bind fun t231=>(if t231=0 then ((spec_l06Table.f k a0 a1).bind fun t232=>(some (t232,0))) else (some (([]:List (List Int)),t231)))
theorem spec_CyclotomicTable.mono:∀a0 a1 k,LeO (spec_CyclotomicTable.f k a0 a1) (spec_CyclotomicTable.f (k+1) a0 a1):=by
  intro a0 a1 k;unfold spec_CyclotomicTable.f;repeat' first
      |(with_reducible exact spec_l06Code.mono _ _ _ _)
      |(with_reducible exact spec_l06Table.mono _ _ _)
      |(with_reducible exact LeO.refl _)
      |(with_reducible exact LeO.none _)
      |(with_reducible refine LeO.ite ?_ ?_)
      |(with_reducible refine LeO.bind ?_ (fun _=>?_))
      |exact spec_l06Code.mono _ _ _ _
      |exact spec_l06Table.mono _ _ _
      |exact LeO.none _
      |refine LeO.ite ?_ ?_
      |refine LeO.bind ?_ (fun _=>?_)
set_option maxHeartbeats 8000000 in
set_option maxRecDepth 100000 in
theorem spec_CyclotomicTable.calls (k:Nat) (a0:Int) (a1:Int) (r1:List (List Int)) (r2:Int) (w:World) (h:spec_CyclotomicTable.f k a0 a1=some (r1,r2)):
    Calls Try.prog 35 #[.int .i64 a0,.int .i64 a1] w fun e w'=>∃v0_:Value,e=.returned (.tuple #[v0_,.int .i64 r2])∧Kd.S (Kd.slice 2 (Kd.int .i64)) 22 w' w.heap.size (fun _=>True) v0_ r1∧Below w.heap.size w w':=by
  have HB:=qAm (Below.refl w.heap.size w);have H:((spec_l06Code.f k a0 a1 ([]:List Int)).bind fun t231=>(if t231=0 then ((spec_l06Table.f k a0 a1).bind fun t232=>(some (t232,0))) else (some (([]:List (List Int)),t231))))=some (r1,r2):=h;clear h;replace H:=qOb H;obtain⟨t231,A30,H⟩:=H;replace H:(if t231=0 then ((spec_l06Table.f k a0 a1).bind fun t232=>(some (t232,0))) else (some (([]:List (List Int)),t231)))=some (r1,r2):=H;have A3:=qAm A30;clear A30
  by_cases c4:t231=0
  · rw [if_pos c4] at H
    have c4b0:(t231==0)=true:=beq_iff_eq.mpr c4;have c4b1:(t231 !=0)=false:=bne_eq_false_iff_eq.mpr c4;clear c4;replace H:=qOb H;obtain⟨t232,A50,H⟩:=H;replace H:(some (t232,0))=some (r1,r2):=H;have A5:=qAm A50;clear A50;simp only [Option.some.injEq,Prod.mk.injEq] at H;obtain⟨rfl,rfl⟩:=H;go_enter Try.func35,Try.ntmps35;go_wp2_with (first|((with_reducible refine gate_callee (f:=79) rfl ?_);refine goesL_ (some 9) rfl rfl Try.func79 (by kernel_rfl) rfl #[.int .i64 a0,.int .i64 a1,.slice none 0 0] rfl qB19 ?_;(refine(spec_l06Code.calls k a0 a1 _ _ ([]:List Int) t231 _ ?side1 ?side2 A3.1).mono ?_);(case side1=>exact Kd.C_nil _ _);(case side2=>exact Nat.le_refl _);rintro e w' ⟨rfl,⟨nd,rfl⟩⟩;refine⟨_,rfl,?_⟩)|((with_reducible refine gate_callee (f:=93) rfl ?_);refine goesL_ (some 15) rfl rfl Try.func93 (by kernel_rfl) rfl #[.int .i64 a0,.int .i64 a1] rfl qB19 ?_;(with_reducible refine(spec_l06Table.calls k a0 a1 t232 _ A5.1).mono ?_);rintro e w6 ⟨v233,rfl,ho0,hb⟩;refine⟨_,rfl,?_⟩;have n0_:=qAm (Kd.S_lower ho0 (below_size qB23));have n1_:=qAm (below_step qB23 hb);clear HB;have HO234:=n0_;have HB:=n1_;clear n0_ n1_;(try clear hb);(try clear hb2);(try clear hk);(try clear hi);(try clear ho0)));go_ret2;exact⟨_,by first|rfl|(simp [errW_none,errW_some] <;> rfl)|(simp [*,errW_none,errW_some] <;> rfl),by (with_reducible repeat(first|apply Kd.S_alloc|apply Kd.S_drewN|apply Kd.S_drew));exact HO234.1,by repeat(first|(with_reducible first|exact HB.1|apply below_alloc|apply pw_below_drewN|apply below_drew1)|exact HB.1)⟩
  · rw [if_neg c4] at H
    have c4b0:(t231==0)=false:=beq_eq_false_iff_ne.mpr c4;have c4b1:(t231 !=0)=true:=bne_iff_ne.mpr c4;simp only [Option.some.injEq,Prod.mk.injEq] at H;obtain⟨rfl,rfl⟩:=H;go_enter Try.func35,Try.ntmps35;go_wp2_with (first|((with_reducible refine gate_callee (f:=79) rfl ?_);refine goesL_ (some 9) rfl rfl Try.func79 (by kernel_rfl) rfl #[.int .i64 a0,.int .i64 a1,.slice none 0 0] rfl qB19 ?_;(refine(spec_l06Code.calls k a0 a1 _ _ ([]:List Int) t231 _ ?side1 ?side2 A3.1).mono ?_);(case side1=>exact Kd.C_nil _ _);(case side2=>exact Nat.le_refl _);rintro e w' ⟨rfl,⟨nd,rfl⟩⟩;refine⟨_,rfl,?_⟩));go_ret2;exact⟨_,by first|rfl|(simp [errW_none,errW_some] <;> rfl)|(simp [*,errW_none,errW_some] <;> rfl),by first|exact Kd.S_nil _ _ _ _ _|exact Kd.N_nil _ _ _ _ _|exact Kd.V_nil _ _ _ _ _|exact Kd.Q_nil _ _ _ _ _|exact Kd.R_nil _ _ _ _ _,by repeat(first|(with_reducible first|exact HB.1|apply below_alloc|apply pw_below_drewN|apply below_drew1)|exact HB.1)⟩

/-! ### laws_likeInts: function 43 -/
def laws_likeInts.l0:Nat→List Int→List Int→Int→Option (Bool)
  |0,_,_,_=>none
  |k+1,x0,x1,x5=>if x5<(x0.length:Int) then (if 0≤x5 then (if x5<(x1.length:Int) then (if (rd x0 x5)=(rd x1 x5) then (laws_likeInts.l0 k x0 x1 (wrap64 (x5+1))) else (some false)) else (none)) else (none)) else (some true)
def laws_likeInts.f (k:Nat) (l0:List Int) (l1:List Int):Option (Bool):=if (l0.length:Int)=(l1.length:Int) then (laws_likeInts.l0 k l0 l1 0) else (some false)
theorem laws_likeInts.mono_l:∀k,(∀y0 y1 y2,LeO (laws_likeInts.l0 k y0 y1 y2) (laws_likeInts.l0 (k+1) y0 y1 y2))
  |0=>fun _ _ _ r h=>by simp [laws_likeInts.l0] at h
  |k+1=>by
    have ih0:=laws_likeInts.mono_l k
    · intro y0 y1 y2
      unfold laws_likeInts.l0;repeat' first
      |(with_reducible exact ih0 _ _ _)
      |(with_reducible exact LeO.refl _)
      |(with_reducible exact LeO.none _)
      |(with_reducible refine LeO.ite ?_ ?_)
      |(with_reducible refine LeO.bind ?_ (fun _=>?_))
      |exact ih0 _ _ _
      |exact LeO.none _
      |refine LeO.ite ?_ ?_
      |refine LeO.bind ?_ (fun _=>?_)
theorem laws_likeInts.mono:∀a0 a1 k,LeO (laws_likeInts.f k a0 a1) (laws_likeInts.f (k+1) a0 a1):=by
  intro a0 a1 k;have ih0:=laws_likeInts.mono_l k;unfold laws_likeInts.f;repeat' first
      |(with_reducible exact ih0 _ _ _)
      |(with_reducible exact LeO.refl _)
      |(with_reducible exact LeO.none _)
      |(with_reducible refine LeO.ite ?_ ?_)
      |(with_reducible refine LeO.bind ?_ (fun _=>?_))
      |exact ih0 _ _ _
      |exact LeO.none _
      |refine LeO.ite ?_ ?_
      |refine LeO.bind ?_ (fun _=>?_)
set_option maxHeartbeats 8000000 in
set_option maxRecDepth 100000 in
theorem laws_likeInts.calls (k:Nat) (A0:Option Addr) (c0:Nat) (l0:List Int) (A1:Option Addr) (c1:Nat) (l1:List Int) (r:Bool) (w:World) (hr0:Kd.C (Kd.int .i64) w A0 l0.length l0) (hc0:l0.length≤c0) (hr1:Kd.C (Kd.int .i64) w A1 l1.length l1) (hc1:l1.length≤c1) (h:laws_likeInts.f k l0 l1=some r):
    Calls Try.prog 43 #[.slice A0 l0.length c0,.slice A1 l1.length c1] w fun e w'=>e=.returned (.bool r)∧Drawn0 w w':=by
  have HR0:=qAm hr0;have HC0:=qAm hc0;clear hr0 hc0;have HR1:=qAm hr1;have HC1:=qAm hc1;clear hr1 hc1;have H:(if (l0.length:Int)=(l1.length:Int) then (laws_likeInts.l0 k l0 l1 0) else (some false))=some r:=h;clear h
  by_cases c3:(l0.length:Int)=(l1.length:Int)
  · rw [if_pos c3] at H
    have c3b0:((l0.length:Int)==(l1.length:Int))=true:=beq_iff_eq.mpr c3;have c3b1:((l0.length:Int) !=(l1.length:Int))=false:=bne_eq_false_iff_eq.mpr c3;have c3b2:(l0.length==l1.length)=true:=by first|simpa using c3|(simp at c3 ⊢;omega)
    clear c3;have H':=qAm H;clear H;go_enter Try.func43,Try.ntmps43;go_wp2;repeat(go_quiet (fail);try go_wp2)
    try simp only [Act.put,qSa,qSc,qSb]
    go_loopg [5] k (fun kq v5 w'=>∃(x5_1:Int),v5=.int .i64 x5_1∧Aside0 (laws_likeInts.l0 kq l0 l1 x5_1=some r)∧Aside0 (kq≤k)∧Drawn0 w w')
    case atStart=>exact⟨(0),qB57,H',⟨Nat.le_refl _⟩,by repeat(first|exact Drawn0.refl _|apply Drawn0.step)⟩
    case round=>
      clear H';try clear c1
      try clear p2
      try clear c3
      try clear c3b0
      try clear c3b1
      try clear c3b2
      obtain⟨x5_1,rfl,HA,HK1,⟨m1,rfl⟩⟩:=hrel;cases gk with
      |zero=>exact absurd HA.1 (by simp [laws_likeInts.l0])
      |succ k1=>
        have H:=HA.1;clear HA;simp only [laws_likeInts.l0] at H
        by_cases c4:x5_1<(l0.length:Int)
        · rw [if_pos c4] at H
          have c4b0:decide (x5_1<(l0.length:Int))=true:=decide_eq_true c4;clear c4
          by_cases c5:0≤x5_1
          · rw [if_pos c5] at H
            have c5b0:decide (0≤x5_1)=true:=decide_eq_true c5;clear c5
            by_cases c6:x5_1<(l1.length:Int)
            · rw [if_pos c6] at H
              have c6b0:decide (x5_1<(l1.length:Int))=true:=decide_eq_true c6;clear c6
              by_cases c7:(rd l0 x5_1)=(rd l1 x5_1)
              · rw [if_pos c7] at H
                have c7b0:((rd l0 x5_1)==(rd l1 x5_1))=true:=beq_iff_eq.mpr c7;have c7b1:((rd l0 x5_1) !=(rd l1 x5_1))=false:=bne_eq_false_iff_eq.mpr c7;clear c7;have H':=qAm H;clear H;have p235:0≤(x5_1:Int):=of_decide_eq_true qB56;have q235:x5_1<(l0.length:Int):=of_decide_eq_true qB56;obtain⟨ad235,e235,hx235_0⟩:=Kd.at_int HR0.1 x5_1 p235 q235;cases e235
                replace p235:=eq_true p235;replace q235:=eq_true q235;have p236:0≤(x5_1:Int):=of_decide_eq_true qB56;have q236:x5_1<(l1.length:Int):=of_decide_eq_true qB56;obtain⟨ad236,e236,hx236_0⟩:=Kd.at_int HR1.1 x5_1 p236 q236;cases e236
                replace p236:=eq_true p236;replace q236:=eq_true q236;go_wp2;repeat(go_quiet (fail);try go_wp2)
                (first|go_roundg k1|((try simp only [add_plain] at *);go_roundg k1))
                case measure=>have:=HK1.1;omega
                case rel=>exact⟨(wrap64 (x5_1+1)),qB57,H',⟨by have:=HK1.1;omega⟩,by repeat(first|exact Drawn0.refl _|apply Drawn0.step)⟩
              · rw [if_neg c7] at H
                have c7b0:((rd l0 x5_1)==(rd l1 x5_1))=false:=beq_eq_false_iff_ne.mpr c7;have c7b1:((rd l0 x5_1) !=(rd l1 x5_1))=true:=bne_iff_ne.mpr c7;obtain rfl:=Option.some.inj H;have p235:0≤(x5_1:Int):=of_decide_eq_true qB56;have q235:x5_1<(l0.length:Int):=of_decide_eq_true qB56;obtain⟨ad235,e235,hx235_0⟩:=Kd.at_int HR0.1 x5_1 p235 q235;cases e235
                replace p235:=eq_true p235;replace q235:=eq_true q235;have p236:0≤(x5_1:Int):=of_decide_eq_true qB56;have q236:x5_1<(l1.length:Int):=of_decide_eq_true qB56;obtain⟨ad236,e236,hx236_0⟩:=Kd.at_int HR1.1 x5_1 p236 q236;cases e236
                replace p236:=eq_true p236;replace q236:=eq_true q236;go_wp2;repeat(go_quiet (fail);try go_wp2)
                go_ret;exact⟨by first|rfl|(simp;done)|(simp [*];done),by repeat(first|exact Drawn0.refl _|apply Drawn0.step)⟩
            · rw [if_neg c6] at H
              exact absurd H (by simp)
          · rw [if_neg c5] at H
            exact absurd H (by simp)
        · rw [if_neg c4] at H
          have c4b0:decide (x5_1<(l0.length:Int))=false:=decide_eq_false c4;clear c4;obtain rfl:=Option.some.inj H;go_wp2;repeat(go_quiet (fail);try go_wp2)
          go_ret;exact⟨by first|rfl|(simp;done)|(simp [*];done),by repeat(first|exact Drawn0.refl _|apply Drawn0.step)⟩
  · rw [if_neg c3] at H
    have c3b0:((l0.length:Int)==(l1.length:Int))=false:=beq_eq_false_iff_ne.mpr c3;have c3b1:((l0.length:Int) !=(l1.length:Int))=true:=bne_iff_ne.mpr c3;have c3b2:(l0.length==l1.length)=false:=by first|simpa using c3|(simp at c3 ⊢;omega)
    obtain rfl:=Option.some.inj H;go_enter Try.func43,Try.ntmps43;go_wp2;repeat(go_quiet (fail);try go_wp2)
    go_ret;exact⟨by first|rfl|(simp;done)|(simp [*];done),by repeat(first|exact Drawn0.refl _|apply Drawn0.step)⟩

/-! ### laws_rows9: function 36 -/
def laws_rows9.l0:Nat→List (List Int)→List (List Int)→Int→Option (Bool)
  |0,_,_,_=>none
  |k+1,x0,x1,x5=>if x5<(x0.length:Int) then (if 0≤x5 then (if x5<(x1.length:Int) then ((laws_likeInts.f k (rd_L2 x0 x5) (rd_L2 x1 x5)).bind fun t239=>(if t239=true then (laws_rows9.l0 k x0 x1 (wrap64 (x5+1))) else (some false))) else (none)) else (none)) else (some true)
def laws_rows9.f (k:Nat) (l0:List (List Int)) (l1:List (List Int)):Option (Bool):=if (l0.length:Int)=(l1.length:Int) then (laws_rows9.l0 k l0 l1 0) else (some false)
theorem laws_rows9.mono_l:∀k,(∀y0 y1 y2,LeO (laws_rows9.l0 k y0 y1 y2) (laws_rows9.l0 (k+1) y0 y1 y2))
  |0=>fun _ _ _ r h=>by simp [laws_rows9.l0] at h
  |k+1=>by
    have ih0:=laws_rows9.mono_l k
    · intro y0 y1 y2
      unfold laws_rows9.l0;repeat' first
      |(with_reducible exact ih0 _ _ _)
      |(with_reducible exact laws_likeInts.mono _ _ _)
      |(with_reducible exact LeO.refl _)
      |(with_reducible exact LeO.none _)
      |(with_reducible refine LeO.ite ?_ ?_)
      |(with_reducible refine LeO.bind ?_ (fun _=>?_))
      |exact ih0 _ _ _
      |exact laws_likeInts.mono _ _ _
      |exact LeO.none _
      |refine LeO.ite ?_ ?_
      |refine LeO.bind ?_ (fun _=>?_)
theorem laws_rows9.mono:∀a0 a1 k,LeO (laws_rows9.f k a0 a1) (laws_rows9.f (k+1) a0 a1):=by
  intro a0 a1 k;have ih0:=laws_rows9.mono_l k;unfold laws_rows9.f;repeat' first
      |(with_reducible exact ih0 _ _ _)
      |(with_reducible exact laws_likeInts.mono _ _ _)
      |(with_reducible exact LeO.refl _)
      |(with_reducible exact LeO.none _)
      |(with_reducible refine LeO.ite ?_ ?_)
      |(with_reducible refine LeO.bind ?_ (fun _=>?_))
      |exact ih0 _ _ _
      |exact laws_likeInts.mono _ _ _
      |exact LeO.none _
      |refine LeO.ite ?_ ?_
      |refine LeO.bind ?_ (fun _=>?_)
set_option maxHeartbeats 8000000 in
set_option maxRecDepth 100000 in
theorem laws_rows9.calls (k:Nat) (A0:Option Addr) (c0:Nat) (l0:List (List Int)) (A1:Option Addr) (c1:Nat) (l1:List (List Int)) (r:Bool) (w:World) (hr0:Kd.C (Kd.slice 2 (Kd.int .i64)) w A0 l0.length l0) (hc0:l0.length≤c0) (hr1:Kd.C (Kd.slice 2 (Kd.int .i64)) w A1 l1.length l1) (hc1:l1.length≤c1) (h:laws_rows9.f k l0 l1=some r):
    Calls Try.prog 36 #[.slice A0 l0.length c0,.slice A1 l1.length c1] w fun e w'=>e=.returned (.bool r)∧Drawn0 w w':=by
  have HR0:=qAm hr0;have HC0:=qAm hc0;clear hr0 hc0;have HR1:=qAm hr1;have HC1:=qAm hc1;clear hr1 hc1;have H:(if (l0.length:Int)=(l1.length:Int) then (laws_rows9.l0 k l0 l1 0) else (some false))=some r:=h;clear h
  by_cases c3:(l0.length:Int)=(l1.length:Int)
  · rw [if_pos c3] at H
    have c3b0:((l0.length:Int)==(l1.length:Int))=true:=beq_iff_eq.mpr c3;have c3b1:((l0.length:Int) !=(l1.length:Int))=false:=bne_eq_false_iff_eq.mpr c3;have c3b2:(l0.length==l1.length)=true:=by first|simpa using c3|(simp at c3 ⊢;omega)
    clear c3;have H':=qAm H;clear H;go_enter Try.func36,Try.ntmps36;go_wp2;repeat(go_quiet (fail);try go_wp2)
    try simp only [Act.put,qSa,qSc,qSb]
    go_loopg [5] k (fun kq v5 w'=>∃(x5_1:Int),v5=.int .i64 x5_1∧Aside0 (laws_rows9.l0 kq l0 l1 x5_1=some r)∧Aside0 (kq≤k)∧Drawn0 w w')
    case atStart=>exact⟨(0),qB57,H',⟨Nat.le_refl _⟩,by repeat(first|exact Drawn0.refl _|apply Drawn0.step)⟩
    case round=>
      clear H';try clear c1
      try clear p2
      try clear c3
      try clear c3b0
      try clear c3b1
      try clear c3b2
      obtain⟨x5_1,rfl,HA,HK1,⟨m1,rfl⟩⟩:=hrel;cases gk with
      |zero=>exact absurd HA.1 (by simp [laws_rows9.l0])
      |succ k1=>
        have H:=HA.1;clear HA;simp only [laws_rows9.l0] at H
        by_cases c4:x5_1<(l0.length:Int)
        · rw [if_pos c4] at H
          have c4b0:decide (x5_1<(l0.length:Int))=true:=decide_eq_true c4;clear c4
          by_cases c5:0≤x5_1
          · rw [if_pos c5] at H
            have c5b0:decide (0≤x5_1)=true:=decide_eq_true c5;clear c5
            by_cases c6:x5_1<(l1.length:Int)
            · rw [if_pos c6] at H
              have c6b0:decide (x5_1<(l1.length:Int))=true:=decide_eq_true c6;clear c6;replace H:=qOb H;obtain⟨t239,A70,H⟩:=H;replace H:(if t239=true then (laws_rows9.l0 k1 l0 l1 (wrap64 (x5_1+1))) else (some false))=some r:=H;have A7:=qAm A70;clear A70
              by_cases c8:t239=true
              · subst c8
                have H1:(laws_rows9.l0 k1 l0 l1 (wrap64 (x5_1+1)))=some r:=by rw [if_pos rfl] at H;exact H
                clear H;have H:=H1;clear H1;have H':=qAm H;clear H;have p237:0≤(x5_1:Int):=of_decide_eq_true qB56;have q237:x5_1<(l0.length:Int):=of_decide_eq_true qB56;obtain⟨ad237,A237_0,c237_0,e237,hx237_0,hl237_0,hi237_0⟩:=at_L2 HR0.1 x5_1 p237 q237;cases e237
                have HR237_0:=qAm hi237_0;have HC237_0:=qAm hl237_0;clear hi237_0 hl237_0;replace p237:=eq_true p237;replace q237:=eq_true q237;have p238:0≤(x5_1:Int):=of_decide_eq_true qB56;have q238:x5_1<(l1.length:Int):=of_decide_eq_true qB56;obtain⟨ad238,A238_0,c238_0,e238,hx238_0,hl238_0,hi238_0⟩:=at_L2 HR1.1 x5_1 p238 q238;cases e238
                have HR238_0:=qAm hi238_0;have HC238_0:=qAm hl238_0;clear hi238_0 hl238_0;replace p238:=eq_true p238;replace q238:=eq_true q238;go_wp2_with (first|(go_at_call 43;(with_reducible refine(laws_likeInts.calls k1 _ _ (rd_L2 l0 x5_1) _ _ (rd_L2 l1 x5_1) true _ ?side1 ?side2 ?side3 ?side4 A7.1).mono ?_);(case side1=>repeat(first|exact HR237_0.1|(with_reducible refine Kd.C_alloc ?_ _)|(with_reducible refine Kd.C_drewN ?_ _)|(with_reducible refine Kd.C_drew ?_)));(case side2=>exact HC237_0.1);(case side3=>repeat(first|exact HR238_0.1|(with_reducible refine Kd.C_alloc ?_ _)|(with_reducible refine Kd.C_drewN ?_ _)|(with_reducible refine Kd.C_drew ?_)));(case side4=>exact HC238_0.1);rintro e w' ⟨rfl,⟨nd,rfl⟩⟩;(try first|exact⟨rfl,_,World.drewN_drewN _ _ _⟩|exact⟨rfl,_,Eq.trans (World.drewN_drewN _ _ _) (congrArg (World.drewN _) (Nat.add_assoc _ _ _))⟩)));repeat(go_quiet (first|(go_at_call 43;(with_reducible refine(laws_likeInts.calls k1 _ _ (rd_L2 l0 x5_1) _ _ (rd_L2 l1 x5_1) true _ ?side1 ?side2 ?side3 ?side4 A7.1).mono ?_);(case side1=>repeat(first|exact HR237_0.1|(with_reducible refine Kd.C_alloc ?_ _)|(with_reducible refine Kd.C_drewN ?_ _)|(with_reducible refine Kd.C_drew ?_)));(case side2=>exact HC237_0.1);(case side3=>repeat(first|exact HR238_0.1|(with_reducible refine Kd.C_alloc ?_ _)|(with_reducible refine Kd.C_drewN ?_ _)|(with_reducible refine Kd.C_drew ?_)));(case side4=>exact HC238_0.1);rintro e w' ⟨rfl,⟨nd,rfl⟩⟩;(try first|exact⟨rfl,_,World.drewN_drewN _ _ _⟩|exact⟨rfl,_,Eq.trans (World.drewN_drewN _ _ _) (congrArg (World.drewN _) (Nat.add_assoc _ _ _))⟩)));try go_wp2_with (first|(go_at_call 43;(with_reducible refine(laws_likeInts.calls k1 _ _ (rd_L2 l0 x5_1) _ _ (rd_L2 l1 x5_1) true _ ?side1 ?side2 ?side3 ?side4 A7.1).mono ?_);(case side1=>repeat(first|exact HR237_0.1|(with_reducible refine Kd.C_alloc ?_ _)|(with_reducible refine Kd.C_drewN ?_ _)|(with_reducible refine Kd.C_drew ?_)));(case side2=>exact HC237_0.1);(case side3=>repeat(first|exact HR238_0.1|(with_reducible refine Kd.C_alloc ?_ _)|(with_reducible refine Kd.C_drewN ?_ _)|(with_reducible refine Kd.C_drew ?_)));(case side4=>exact HC238_0.1);rintro e w' ⟨rfl,⟨nd,rfl⟩⟩;(try first|exact⟨rfl,_,World.drewN_drewN _ _ _⟩|exact⟨rfl,_,Eq.trans (World.drewN_drewN _ _ _) (congrArg (World.drewN _) (Nat.add_assoc _ _ _))⟩))))
                (first|go_roundg k1|((try simp only [add_plain] at *);go_roundg k1))
                case measure=>have:=HK1.1;omega
                case rel=>exact⟨(wrap64 (x5_1+1)),qB57,H',⟨by have:=HK1.1;omega⟩,by repeat(first|exact Drawn0.refl _|apply Drawn0.step)⟩
              · replace c8:=Bool.eq_false_iff.mpr c8
                subst c8;have H1:(some false)=some r:=by rw [if_neg (show ¬(false=true) by decide)] at H;exact H
                clear H;have H:=H1;clear H1;obtain rfl:=Option.some.inj H;have p237:0≤(x5_1:Int):=of_decide_eq_true qB56;have q237:x5_1<(l0.length:Int):=of_decide_eq_true qB56;obtain⟨ad237,A237_0,c237_0,e237,hx237_0,hl237_0,hi237_0⟩:=at_L2 HR0.1 x5_1 p237 q237;cases e237
                have HR237_0:=qAm hi237_0;have HC237_0:=qAm hl237_0;clear hi237_0 hl237_0;replace p237:=eq_true p237;replace q237:=eq_true q237;have p238:0≤(x5_1:Int):=of_decide_eq_true qB56;have q238:x5_1<(l1.length:Int):=of_decide_eq_true qB56;obtain⟨ad238,A238_0,c238_0,e238,hx238_0,hl238_0,hi238_0⟩:=at_L2 HR1.1 x5_1 p238 q238;cases e238
                have HR238_0:=qAm hi238_0;have HC238_0:=qAm hl238_0;clear hi238_0 hl238_0;replace p238:=eq_true p238;replace q238:=eq_true q238;go_wp2_with (first|(go_at_call 43;(with_reducible refine(laws_likeInts.calls k1 _ _ (rd_L2 l0 x5_1) _ _ (rd_L2 l1 x5_1) false _ ?side1 ?side2 ?side3 ?side4 A7.1).mono ?_);(case side1=>repeat(first|exact HR237_0.1|(with_reducible refine Kd.C_alloc ?_ _)|(with_reducible refine Kd.C_drewN ?_ _)|(with_reducible refine Kd.C_drew ?_)));(case side2=>exact HC237_0.1);(case side3=>repeat(first|exact HR238_0.1|(with_reducible refine Kd.C_alloc ?_ _)|(with_reducible refine Kd.C_drewN ?_ _)|(with_reducible refine Kd.C_drew ?_)));(case side4=>exact HC238_0.1);rintro e w' ⟨rfl,⟨nd,rfl⟩⟩;(try first|exact⟨rfl,_,World.drewN_drewN _ _ _⟩|exact⟨rfl,_,Eq.trans (World.drewN_drewN _ _ _) (congrArg (World.drewN _) (Nat.add_assoc _ _ _))⟩)));repeat(go_quiet (first|(go_at_call 43;(with_reducible refine(laws_likeInts.calls k1 _ _ (rd_L2 l0 x5_1) _ _ (rd_L2 l1 x5_1) false _ ?side1 ?side2 ?side3 ?side4 A7.1).mono ?_);(case side1=>repeat(first|exact HR237_0.1|(with_reducible refine Kd.C_alloc ?_ _)|(with_reducible refine Kd.C_drewN ?_ _)|(with_reducible refine Kd.C_drew ?_)));(case side2=>exact HC237_0.1);(case side3=>repeat(first|exact HR238_0.1|(with_reducible refine Kd.C_alloc ?_ _)|(with_reducible refine Kd.C_drewN ?_ _)|(with_reducible refine Kd.C_drew ?_)));(case side4=>exact HC238_0.1);rintro e w' ⟨rfl,⟨nd,rfl⟩⟩;(try first|exact⟨rfl,_,World.drewN_drewN _ _ _⟩|exact⟨rfl,_,Eq.trans (World.drewN_drewN _ _ _) (congrArg (World.drewN _) (Nat.add_assoc _ _ _))⟩)));try go_wp2_with (first|(go_at_call 43;(with_reducible refine(laws_likeInts.calls k1 _ _ (rd_L2 l0 x5_1) _ _ (rd_L2 l1 x5_1) false _ ?side1 ?side2 ?side3 ?side4 A7.1).mono ?_);(case side1=>repeat(first|exact HR237_0.1|(with_reducible refine Kd.C_alloc ?_ _)|(with_reducible refine Kd.C_drewN ?_ _)|(with_reducible refine Kd.C_drew ?_)));(case side2=>exact HC237_0.1);(case side3=>repeat(first|exact HR238_0.1|(with_reducible refine Kd.C_alloc ?_ _)|(with_reducible refine Kd.C_drewN ?_ _)|(with_reducible refine Kd.C_drew ?_)));(case side4=>exact HC238_0.1);rintro e w' ⟨rfl,⟨nd,rfl⟩⟩;(try first|exact⟨rfl,_,World.drewN_drewN _ _ _⟩|exact⟨rfl,_,Eq.trans (World.drewN_drewN _ _ _) (congrArg (World.drewN _) (Nat.add_assoc _ _ _))⟩))))
                go_ret;exact⟨by first|rfl|(simp;done)|(simp [*];done),by repeat(first|exact Drawn0.refl _|apply Drawn0.step)⟩
            · rw [if_neg c6] at H
              exact absurd H (by simp)
          · rw [if_neg c5] at H
            exact absurd H (by simp)
        · rw [if_neg c4] at H
          have c4b0:decide (x5_1<(l0.length:Int))=false:=decide_eq_false c4;clear c4;obtain rfl:=Option.some.inj H;go_wp2;repeat(go_quiet (fail);try go_wp2)
          go_ret;exact⟨by first|rfl|(simp;done)|(simp [*];done),by repeat(first|exact Drawn0.refl _|apply Drawn0.step)⟩
  · rw [if_neg c3] at H
    have c3b0:((l0.length:Int)==(l1.length:Int))=false:=beq_eq_false_iff_ne.mpr c3;have c3b1:((l0.length:Int) !=(l1.length:Int))=true:=bne_iff_ne.mpr c3;have c3b2:(l0.length==l1.length)=false:=by first|simpa using c3|(simp at c3 ⊢;omega)
    obtain rfl:=Option.some.inj H;go_enter Try.func36,Try.ntmps36;go_wp2;repeat(go_quiet (fail);try go_wp2)
    go_ret;exact⟨by first|rfl|(simp;done)|(simp [*];done),by repeat(first|exact Drawn0.refl _|apply Drawn0.step)⟩

/-! ### spec_DrawClassOf: function 37 -/
def spec_DrawClassOf.f (k:Nat) (l0:List Int):Option (Int×Int×Int):=(spec_l01From.f k l0).bind fun bt240=>((spec_l06Draw.f k bt240.1 bt240.2.1 bt240.2.2).bind fun bt244=>((spec_l01Next.f bt240.1 bt244.2.2.1 bt244.2.2.2 2).bind fun bt248=>((spec_l01Next.f bt240.1 bt248.2.1 bt248.2.2 (wrap64 ((mx bt244.1 1)+bt248.1))).bind fun bt251=>(some (bt244.1,bt244.2.1,bt251.1)))))
theorem spec_DrawClassOf.mono:∀a0 k,LeO (spec_DrawClassOf.f k a0) (spec_DrawClassOf.f (k+1) a0):=by
  intro a0 k;unfold spec_DrawClassOf.f;repeat' first
      |(with_reducible exact spec_l01From.mono _ _)
      |(with_reducible exact spec_l06Draw.mono _ _ _ _)
      |(with_reducible exact LeO.refl _)
      |(with_reducible exact LeO.none _)
      |(with_reducible refine LeO.ite ?_ ?_)
      |(with_reducible refine LeO.bind ?_ (fun _=>?_))
      |exact spec_l01From.mono _ _
      |exact spec_l06Draw.mono _ _ _ _
      |exact LeO.none _
      |refine LeO.ite ?_ ?_
      |refine LeO.bind ?_ (fun _=>?_)
set_option maxHeartbeats 8000000 in
set_option maxRecDepth 100000 in
theorem spec_DrawClassOf.calls (k:Nat) (A0:Option Addr) (c0:Nat) (l0:List Int) (r1:Int) (r2:Int) (r3:Int) (w:World) (hr0:Kd.C (Kd.int .u8) w A0 l0.length l0) (hc0:l0.length≤c0) (h:spec_DrawClassOf.f k l0=some (r1,r2,r3)):
    Calls Try.prog 37 #[.slice A0 l0.length c0] w fun e w'=>e=.returned (.tuple #[.int .i64 r1,.int .i64 r2,.int .i64 r3])∧Below w.heap.size w w':=by
  have HR0:=qAm hr0;have HC0:=qAm hc0;clear hr0 hc0;have HB:=qAm (Below.refl w.heap.size w);have H:((spec_l01From.f k l0).bind fun bt240=>((spec_l06Draw.f k bt240.1 bt240.2.1 bt240.2.2).bind fun bt244=>((spec_l01Next.f bt240.1 bt244.2.2.1 bt244.2.2.2 2).bind fun bt248=>((spec_l01Next.f bt240.1 bt248.2.1 bt248.2.2 (wrap64 ((mx bt244.1 1)+bt248.1))).bind fun bt251=>(some (bt244.1,bt244.2.1,bt251.1))))))=some (r1,r2,r3):=h;clear h;replace H:=qOb H;obtain⟨⟨t240,t241,t242⟩,A20,H⟩:=H;replace H:((spec_l06Draw.f k t240 t241 t242).bind fun bt244=>((spec_l01Next.f t240 bt244.2.2.1 bt244.2.2.2 2).bind fun bt248=>((spec_l01Next.f t240 bt248.2.1 bt248.2.2 (wrap64 ((mx bt244.1 1)+bt248.1))).bind fun bt251=>(some (bt244.1,bt244.2.1,bt251.1)))))=some (r1,r2,r3):=H;have A2:=qAm A20;clear A20;replace H:=qOb H;obtain⟨⟨t244,t245,t246,t247⟩,A30,H⟩:=H;replace H:((spec_l01Next.f t240 t246 t247 2).bind fun bt248=>((spec_l01Next.f t240 bt248.2.1 bt248.2.2 (wrap64 ((mx t244 1)+bt248.1))).bind fun bt251=>(some (t244,t245,bt251.1))))=some (r1,r2,r3):=H;have A3:=qAm A30;clear A30;obtain⟨ji4,hji4⟩:∃j_:Int,(mx t244 1)=j_:=⟨_,rfl⟩
  replace H:((spec_l01Next.f t240 t246 t247 2).bind fun bt248=>((spec_l01Next.f t240 bt248.2.1 bt248.2.2 (wrap64 ((ji4)+bt248.1))).bind fun bt251=>(some (t244,t245,bt251.1))))=some (r1,r2,r3):=by first|(rw [hji4] at H;exact H)|(simp only [hji4] at H ⊢;exact H)
  (try rw [hji4] at A2)
  (try rw [hji4] at A3)
  (try(have hji4l:1≤ji4:=by (rw [← hji4];unfold mx;(repeat' split) <;> omega)))
  (try(have hji4m:0≤ji4:=by omega))
  have hji4_:(if t244<1 then 1 else t244)=ji4:=hji4;replace H:=qOb H;obtain⟨⟨t248,t249,t250⟩,A50,H⟩:=H;replace H:((spec_l01Next.f t240 t249 t250 (wrap64 ((ji4)+t248))).bind fun bt251=>(some (t244,t245,bt251.1)))=some (r1,r2,r3):=H;have A5:=qAm A50;clear A50;replace H:=qOb H;obtain⟨⟨t251,t252,t253⟩,A60,H⟩:=H;replace H:(some (t244,t245,t251))=some (r1,r2,r3):=H;have A6:=qAm A60;clear A60;simp only [Option.some.injEq,Prod.mk.injEq] at H;obtain⟨rfl,rfl,rfl⟩:=H;go_enter Try.func37,Try.ntmps37;go_wp2_with (first|((with_reducible refine gate_callee (f:=91) rfl ?_);refine goesL_ (some 9) rfl rfl Try.func91 (by kernel_rfl) rfl #[.slice A0 l0.length c0] rfl qB19 ?_;(with_reducible refine(spec_l01From.calls k _ _ l0 t240 t241 t242 w _ ?side1 ?side2 ?side3 A2.1).mono ?_);(case side1=>repeat(first|(with_reducible first|exact HB.1|apply below_alloc|apply pw_below_drewN|apply below_drew1)|exact HB.1));(case side2=>exact HR0.1);(case side3=>exact HC0.1);rintro e w7 ⟨g243,rfl,hi,hb,hb2⟩;refine⟨_,rfl,?_⟩;have n0_:=qAm (hb);have n1_:=qAm (hi);clear HB;have HB:=n0_;have HI243:=n1_;clear n0_ n1_;(try clear hb);(try clear hb2);(try clear hk);(try clear hi))|((with_reducible refine gate_callee (f:=90) rfl ?_);refine goesL_ (some 12) rfl rfl Try.func90 (by kernel_rfl) rfl #[.pointer (some ⟨g243,0,none⟩)] rfl qB19 ?_;(with_reducible refine(spec_l06Draw.calls k g243 t240 t241 t242 t244 t245 t246 t247 w _ ?side1 ?side2 A3.1).mono ?_);(case side1=>repeat(first|(with_reducible first|exact HI243.1|apply IsS126.alloc|apply IsS126.drewN|apply IsS126.drew|apply IsS126.set_1|apply IsS126.set_2)|exact HI243.1));(case side2=>repeat(first|(with_reducible first|exact HB.1|apply below_alloc|apply pw_below_drewN|apply below_drew1|refine below_set ?_ (IsS126.ge HI243.1))|exact HB.1));rintro e w8 ⟨rfl,hi,hb,hk⟩;refine⟨_,rfl,?_⟩;have n0_:=qAm (hb);have n1_:=qAm (hi);clear HB;clear HI243;have HB:=n0_;have HI243:=n1_;clear n0_ n1_;(try clear hb);(try clear hb2);(try clear hk);(try clear hi))|((with_reducible refine gate_callee (f:=94) rfl ?_);refine goesL_ (some 21) rfl rfl Try.func94 (by kernel_rfl) rfl #[.pointer (some ⟨g243,0,none⟩),.int .i64 2] rfl qB19 ?_;(with_reducible refine(spec_l01Next.calls g243 t240 t246 t247 2 t248 t249 t250 w _ ?side1 ?side2 A5.1).mono ?_);(case side1=>repeat(first|(with_reducible first|exact HI243.1|apply IsS126.alloc|apply IsS126.drewN|apply IsS126.drew|apply IsS126.set_1|apply IsS126.set_2)|exact HI243.1));(case side2=>repeat(first|(with_reducible first|exact HB.1|apply below_alloc|apply pw_below_drewN|apply below_drew1|refine below_set ?_ (IsS126.ge HI243.1))|exact HB.1));rintro e w9 ⟨rfl,hi,hb,hk⟩;refine⟨_,rfl,?_⟩;have n0_:=qAm (hb);have n1_:=qAm (hi);clear HB;clear HI243;have HB:=n0_;have HI243:=n1_;clear n0_ n1_;(try clear hb);(try clear hb2);(try clear hk);(try clear hi))|((with_reducible refine gate_callee (f:=94) rfl ?_);refine goesL_ (some 23) rfl rfl Try.func94 (by kernel_rfl) rfl #[.pointer (some ⟨g243,0,none⟩),.int .i64 (wrap64 ((ji4)+t248))] rfl qB13 ?_;(with_reducible refine(spec_l01Next.calls g243 t240 t249 t250 (wrap64 ((ji4)+t248)) t251 t252 t253 w _ ?side1 ?side2 A6.1).mono ?_);(case side1=>repeat(first|(with_reducible first|exact HI243.1|apply IsS126.alloc|apply IsS126.drewN|apply IsS126.drew|apply IsS126.set_1|apply IsS126.set_2)|exact HI243.1));(case side2=>repeat(first|(with_reducible first|exact HB.1|apply below_alloc|apply pw_below_drewN|apply below_drew1|refine below_set ?_ (IsS126.ge HI243.1))|exact HB.1));rintro e w10 ⟨rfl,hi,hb,hk⟩;refine⟨_,rfl,?_⟩;have n0_:=qAm (hb);have n1_:=qAm (hi);clear HB;clear HI243;have HB:=n0_;have HI243:=n1_;clear n0_ n1_;(try clear hb);(try clear hb2);(try clear hk);(try clear hi)));go_ret3;exact⟨by first|rfl|(simp [errW_none,errW_some] <;> rfl)|(simp only [← hji4];first|rfl|(simp [errW_none,errW_some] <;> rfl))|(simp [*,errW_none,errW_some] <;> rfl),by repeat(first|(with_reducible first|exact HB.1|apply below_alloc|apply pw_below_drewN|apply below_drew1|refine below_set ?_ (IsS126.ge HI243.1))|exact HB.1)⟩

/-! ### impl_ClassOf: function 38 -/
def impl_ClassOf.f (k:Nat) (a0:Int) (a1:Int) (a2:Int):Option (Int×Int):=(impl_periodsOf.f k a0 a1).bind fun bt254=>(if bt254.2.2.2.2=true then ((impl_within.f a2 1 (wrap64 (a0 - 1))).bind fun t262=>(if t262=true then (if 0≤a2 then (if a2<(bt254.2.2.2.1.length:Int) then (some (rd bt254.2.2.2.1 a2,0)) else (none)) else (none)) else (some (0,2)))) else (some (0,2)))
theorem impl_ClassOf.mono:∀a0 a1 a2 k,LeO (impl_ClassOf.f k a0 a1 a2) (impl_ClassOf.f (k+1) a0 a1 a2):=by
  intro a0 a1 a2 k;unfold impl_ClassOf.f;repeat' first
      |(with_reducible exact impl_periodsOf.mono _ _ _)
      |(with_reducible exact LeO.refl _)
      |(with_reducible exact LeO.none _)
      |(with_reducible refine LeO.ite ?_ ?_)
      |(with_reducible refine LeO.bind ?_ (fun _=>?_))
      |exact impl_periodsOf.mono _ _ _
      |exact LeO.none _
      |refine LeO.ite ?_ ?_
      |refine LeO.bind ?_ (fun _=>?_)
set_option maxHeartbeats 8000000 in
set_option maxRecDepth 100000 in
theorem impl_ClassOf.calls (k:Nat) (a0:Int) (a1:Int) (a2:Int) (r1:Int) (r2:Int) (w:World) (h:impl_ClassOf.f k a0 a1 a2=some (r1,r2)):
    Calls Try.prog 38 #[.int .i64 a0,.int .i64 a1,.int .i64 a2] w fun e w'=>e=.returned (.tuple #[.int .i64 r1,.int .i64 r2])∧Below w.heap.size w w':=by
  have hu97:=Try.underlying97;have HB:=qAm (Below.refl w.heap.size w);have H:((impl_periodsOf.f k a0 a1).bind fun bt254=>(if bt254.2.2.2.2=true then ((impl_within.f a2 1 (wrap64 (a0 - 1))).bind fun t262=>(if t262=true then (if 0≤a2 then (if a2<(bt254.2.2.2.1.length:Int) then (some (rd bt254.2.2.2.1 a2,0)) else (none)) else (none)) else (some (0,2)))) else (some (0,2))))=some (r1,r2):=h;clear h;replace H:=qOb H;obtain⟨⟨t254,t255,t256,t257,t260⟩,A40,H⟩:=H;replace H:(if t260=true then ((impl_within.f a2 1 (wrap64 (a0 - 1))).bind fun t262=>(if t262=true then (if 0≤a2 then (if a2<(t257.length:Int) then (some (rd t257 a2,0)) else (none)) else (none)) else (some (0,2)))) else (some (0,2)))=some (r1,r2):=H;have A4:=qAm A40;clear A40
  by_cases c5:t260=true
  · subst c5
    have H1:((impl_within.f a2 1 (wrap64 (a0 - 1))).bind fun t262=>(if t262=true then (if 0≤a2 then (if a2<(t257.length:Int) then (some (rd t257 a2,0)) else (none)) else (none)) else (some (0,2))))=some (r1,r2):=by rw [if_pos rfl] at H;exact H
    clear H;have H:=H1;clear H1;replace H:=qOb H;obtain⟨t262,A60,H⟩:=H;replace H:(if t262=true then (if 0≤a2 then (if a2<(t257.length:Int) then (some (rd t257 a2,0)) else (none)) else (none)) else (some (0,2)))=some (r1,r2):=H;have A6:=qAm A60;clear A60
    by_cases c7:t262=true
    · subst c7
      have H1:(if 0≤a2 then (if a2<(t257.length:Int) then (some (rd t257 a2,0)) else (none)) else (none))=some (r1,r2):=by rw [if_pos rfl] at H;exact H
      clear H;have H:=H1;clear H1
      by_cases c8:0≤a2
      · rw [if_pos c8] at H
        have c8b0:decide (0≤a2)=true:=decide_eq_true c8;clear c8
        by_cases c9:a2<(t257.length:Int)
        · rw [if_pos c9] at H
          have c9b0:decide (a2<(t257.length:Int))=true:=decide_eq_true c9;clear c9;simp only [Option.some.injEq,Prod.mk.injEq] at H;obtain⟨rfl,rfl⟩:=H;go_enter Try.func38,Try.ntmps38;go_wp2_with (first|((with_reducible refine gate_callee (f:=81) rfl ?_);refine goesL_ (some 13) rfl rfl Try.func81 (by kernel_rfl) rfl #[.int .i64 a0,.int .i64 a1] rfl qB19 ?_;(with_reducible refine(impl_periodsOf.calls k a0 a1 t254 t255 t256 t257 true _ A4.1).mono ?_);rintro e w10 ⟨v258,rfl,ho0,hb⟩;refine⟨_,rfl,?_⟩;have n0_:=qAm (Kd.R_lower ho0 (below_size qB23));have n1_:=qAm (below_step qB23 hb);clear HB;have HO259:=n0_;have HB:=n1_;clear n0_ n1_;(try clear hb);(try clear hb2);(try clear hk);(try clear hi);(try clear ho0))|((with_reducible refine gate_dst (N:=8) rfl ?_);refine box_event ?hg (N:=8) ?hd (cs:=#[.int .i64 0,.int .i64 0,.int .i64 0,.slice none 0 0]) (t:=97) ?hr ?_;(case hd=>rfl);(case hg=>rfl);(case hr=>first|(go_simp;done)|(go_simp;rfl));intro gb261 hg w11 hbox hb;have n0_:=qAm (Kd.R_below qB33 hb);have n1_:=qAm (below_step qB23 hb);have n2_:=qAm (hbox);have n3_:=qAm ((by rw [hg];exact(below_size qB23):w.heap.size≤gb261));have n4_:=qAm ((by rw [hg];exact(below_size qB23):w.heap.size≤gb261));clear HO259;clear HB;have HO259:=n0_;have HB:=n1_;have BK261:=n2_;have GW261:=n3_;have GE261:=n4_;clear n0_ n1_ n2_ n3_ n4_;clear hb hbox hg;have hcz12_0:w11.cell? ⟨gb261,0,none⟩=some (.int .i64 0):=(blk_cell BK261.1 0).trans rfl;have hcz12_1:w11.cell? ⟨gb261,1,none⟩=some (.int .i64 0):=(blk_cell BK261.1 1).trans rfl;have hcz12_2:w11.cell? ⟨gb261,2,none⟩=some (.int .i64 0):=(blk_cell BK261.1 2).trans rfl;have hcz12_3:w11.cell? ⟨gb261,3,none⟩=some (.slice none 0 0):=(blk_cell BK261.1 3).trans rfl;have hfz12_0:=blk_frozen BK261.1 0;have hfz12_1:=blk_frozen BK261.1 1;have hfz12_2:=blk_frozen BK261.1 2;have hfz12_3:=blk_frozen BK261.1 3;obtain⟨Ao13,co13,eo13⟩:=Kd.R_slice HO259.1;subst eo13)|(go_at_call 87;(with_reducible refine(impl_within.calls a2 1 (wrap64 (a0 - 1)) true _ A6.1).mono ?_);rintro e w' ⟨rfl,⟨nd,rfl⟩⟩;have p263:0≤(a2:Int):=of_decide_eq_true qB56;have q263:a2<(t257.length:Int):=of_decide_eq_true qB56;obtain⟨ad263,e263,hx263_0⟩:=Kd.at_int (Kd.R_reads' HO259.1).2.2 a2 p263 q263;cases e263;have hn263_0:ad263.block≠gb261:=Kd.own_blk (Kd.R_ne HO259.1 BK261.1 (by decide));have hn263_1:ad263.block≠gb261:=Kd.own_blk (Kd.R_ne HO259.1 BK261.1 (by decide));have hn263_2:ad263.block≠gb261:=Kd.own_blk (Kd.R_ne HO259.1 BK261.1 (by decide));have hn263_3:ad263.block≠gb261:=Kd.own_blk (Kd.R_ne HO259.1 BK261.1 (by decide));replace hx263_0:=(cell_far (p:=⟨gb261,0,none⟩) (by first|(rw [add_block];exact hn263_0)|(show(Addr.add _ _).block≠_;rw [add_block];exact hn263_0)|exact hn263_0) (.int .i64 t254)).trans hx263_0;replace hx263_0:=(cell_far (p:=⟨gb261,1,none⟩) (by first|(rw [add_block];exact hn263_1)|(show(Addr.add _ _).block≠_;rw [add_block];exact hn263_1)|exact hn263_1) (.int .i64 t255)).trans hx263_0;replace hx263_0:=(cell_far (p:=⟨gb261,2,none⟩) (by first|(rw [add_block];exact hn263_2)|(show(Addr.add _ _).block≠_;rw [add_block];exact hn263_2)|exact hn263_2) (.int .i64 t256)).trans hx263_0;replace hx263_0:=(cell_far (p:=⟨gb261,3,none⟩) (by first|(rw [add_block];exact hn263_3)|(show(Addr.add _ _).block≠_;rw [add_block];exact hn263_3)|exact hn263_3) (.slice (some ad263) t257.length co13)).trans hx263_0;clear hn263_0;clear hn263_1;clear hn263_2;clear hn263_3;replace p263:=eq_true p263;replace q263:=eq_true q263));go_ret2;exact⟨by first|rfl|(simp [errW_none,errW_some] <;> rfl)|(simp [*,errW_none,errW_some] <;> rfl),by repeat(first|(with_reducible first|exact HB.1|apply below_alloc|apply pw_below_drewN|apply below_drew1|refine below_set ?_ GE261.1)|exact HB.1)⟩
        · rw [if_neg c9] at H
          exact absurd H (by simp)
      · rw [if_neg c8] at H
        exact absurd H (by simp)
    · replace c7:=Bool.eq_false_iff.mpr c7
      subst c7;have H1:(some (0,2))=some (r1,r2):=by rw [if_neg (show ¬(false=true) by decide)] at H;exact H
      clear H;have H:=H1;clear H1;simp only [Option.some.injEq,Prod.mk.injEq] at H;obtain⟨rfl,rfl⟩:=H;go_enter Try.func38,Try.ntmps38;go_wp2_with (first|((with_reducible refine gate_callee (f:=81) rfl ?_);refine goesL_ (some 13) rfl rfl Try.func81 (by kernel_rfl) rfl #[.int .i64 a0,.int .i64 a1] rfl qB19 ?_;(with_reducible refine(impl_periodsOf.calls k a0 a1 t254 t255 t256 t257 true _ A4.1).mono ?_);rintro e w14 ⟨v258,rfl,ho0,hb⟩;refine⟨_,rfl,?_⟩;have n0_:=qAm (Kd.R_lower ho0 (below_size qB23));have n1_:=qAm (below_step qB23 hb);clear HB;have HO259:=n0_;have HB:=n1_;clear n0_ n1_;(try clear hb);(try clear hb2);(try clear hk);(try clear hi);(try clear ho0))|((with_reducible refine gate_dst (N:=8) rfl ?_);refine box_event ?hg (N:=8) ?hd (cs:=#[.int .i64 0,.int .i64 0,.int .i64 0,.slice none 0 0]) (t:=97) ?hr ?_;(case hd=>rfl);(case hg=>rfl);(case hr=>first|(go_simp;done)|(go_simp;rfl));intro gb261 hg w15 hbox hb;have n0_:=qAm (Kd.R_below qB33 hb);have n1_:=qAm (below_step qB23 hb);have n2_:=qAm (hbox);have n3_:=qAm ((by rw [hg];exact(below_size qB23):w.heap.size≤gb261));have n4_:=qAm ((by rw [hg];exact(below_size qB23):w.heap.size≤gb261));clear HO259;clear HB;have HO259:=n0_;have HB:=n1_;have BK261:=n2_;have GW261:=n3_;have GE261:=n4_;clear n0_ n1_ n2_ n3_ n4_;clear hb hbox hg;have hcz16_0:w15.cell? ⟨gb261,0,none⟩=some (.int .i64 0):=(blk_cell BK261.1 0).trans rfl;have hcz16_1:w15.cell? ⟨gb261,1,none⟩=some (.int .i64 0):=(blk_cell BK261.1 1).trans rfl;have hcz16_2:w15.cell? ⟨gb261,2,none⟩=some (.int .i64 0):=(blk_cell BK261.1 2).trans rfl;have hcz16_3:w15.cell? ⟨gb261,3,none⟩=some (.slice none 0 0):=(blk_cell BK261.1 3).trans rfl;have hfz16_0:=blk_frozen BK261.1 0;have hfz16_1:=blk_frozen BK261.1 1;have hfz16_2:=blk_frozen BK261.1 2;have hfz16_3:=blk_frozen BK261.1 3;obtain⟨Ao17,co17,eo17⟩:=Kd.R_slice HO259.1;subst eo17)|(go_at_call 87;(with_reducible refine(impl_within.calls a2 1 (wrap64 (a0 - 1)) false _ A6.1).mono ?_);rintro e w' ⟨rfl,⟨nd,rfl⟩⟩));go_ret2;exact⟨by first|rfl|(simp [errW_none,errW_some] <;> rfl)|(simp [*,errW_none,errW_some] <;> rfl),by repeat(first|(with_reducible first|exact HB.1|apply below_alloc|apply pw_below_drewN|apply below_drew1|refine below_set ?_ GE261.1)|exact HB.1)⟩
  · replace c5:=Bool.eq_false_iff.mpr c5
    subst c5;have H1:(some (0,2))=some (r1,r2):=by rw [if_neg (show ¬(false=true) by decide)] at H;exact H
    clear H;have H:=H1;clear H1;simp only [Option.some.injEq,Prod.mk.injEq] at H;obtain⟨rfl,rfl⟩:=H;go_enter Try.func38,Try.ntmps38;go_wp2_with (first|((with_reducible refine gate_callee (f:=81) rfl ?_);refine goesL_ (some 13) rfl rfl Try.func81 (by kernel_rfl) rfl #[.int .i64 a0,.int .i64 a1] rfl qB19 ?_;(with_reducible refine(impl_periodsOf.calls k a0 a1 t254 t255 t256 t257 false _ A4.1).mono ?_);rintro e w18 ⟨v258,rfl,ho0,hb⟩;refine⟨_,rfl,?_⟩;have n0_:=qAm (Kd.R_lower ho0 (below_size qB23));have n1_:=qAm (below_step qB23 hb);clear HB;have HO259:=n0_;have HB:=n1_;clear n0_ n1_;(try clear hb);(try clear hb2);(try clear hk);(try clear hi);(try clear ho0))|((with_reducible refine gate_dst (N:=8) rfl ?_);refine box_event ?hg (N:=8) ?hd (cs:=#[.int .i64 0,.int .i64 0,.int .i64 0,.slice none 0 0]) (t:=97) ?hr ?_;(case hd=>rfl);(case hg=>rfl);(case hr=>first|(go_simp;done)|(go_simp;rfl));intro gb261 hg w19 hbox hb;have n0_:=qAm (Kd.R_below qB33 hb);have n1_:=qAm (below_step qB23 hb);have n2_:=qAm (hbox);have n3_:=qAm ((by rw [hg];exact(below_size qB23):w.heap.size≤gb261));have n4_:=qAm ((by rw [hg];exact(below_size qB23):w.heap.size≤gb261));clear HO259;clear HB;have HO259:=n0_;have HB:=n1_;have BK261:=n2_;have GW261:=n3_;have GE261:=n4_;clear n0_ n1_ n2_ n3_ n4_;clear hb hbox hg;have hcz20_0:w19.cell? ⟨gb261,0,none⟩=some (.int .i64 0):=(blk_cell BK261.1 0).trans rfl;have hcz20_1:w19.cell? ⟨gb261,1,none⟩=some (.int .i64 0):=(blk_cell BK261.1 1).trans rfl;have hcz20_2:w19.cell? ⟨gb261,2,none⟩=some (.int .i64 0):=(blk_cell BK261.1 2).trans rfl;have hcz20_3:w19.cell? ⟨gb261,3,none⟩=some (.slice none 0 0):=(blk_cell BK261.1 3).trans rfl;have hfz20_0:=blk_frozen BK261.1 0;have hfz20_1:=blk_frozen BK261.1 1;have hfz20_2:=blk_frozen BK261.1 2;have hfz20_3:=blk_frozen BK261.1 3;obtain⟨Ao21,co21,eo21⟩:=Kd.R_slice HO259.1;subst eo21));go_ret2;exact⟨by first|rfl|(simp [errW_none,errW_some] <;> rfl)|(simp [*,errW_none,errW_some] <;> rfl),by repeat(first|(with_reducible first|exact HB.1|apply below_alloc|apply pw_below_drewN|apply below_drew1|refine below_set ?_ GE261.1)|exact HB.1)⟩

end Go.Proofs.Ytefhabkikaadiaa.PFnPeriods
