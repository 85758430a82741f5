/- The functions that the law reaches, as plain functions, each with the proof that the program comes to it; no condition. Written by a program of this session (wip/mp.py) over the printing of the kit; what is marked HAND is told by hand. -/
import Derived.Test.YtejpliodhnglbaaPFnExactPrimesOfNormx0
import Derived.Test.YtejpliodhnglbaaPFnExactPrimesOfNormx2
namespace Go.Proofs.Ytejpliodhnglbaa.PFnExactPrimesOfNorm
open Go.RowKit Go.Proofs.YtejpliodhnglbaaW.PrintWords Go.Proofs.YtejpliodhnglbaaW.PrintLast Go.Proofs.YtejpliodhnglbaaW.PrintMore
attribute [local go_sem] max2_int min2_int max_two min_two max_three min_three max_four min_four   -- for this text's walks alone
set_option linter.unusedVariables false
set_option linter.unusedSimpArgs false

/-! ### impl_halves: function 64 -/
mutual
def impl_halves.l0:Nat→Int→Int→Int→Int→Int→Option (List Int)
  |0,_,_,_,_,_=>none
  |k+1,x0,x5,x6,x7,x8=>if x7≤x8 then (if (wrap64 ((wrap64 (Int.tdiv (wrap64 (x7+x8)) 2))*(wrap64 (Int.tdiv (wrap64 (x7+x8)) 2))))≤x6 then (impl_halves.l0 k x0 (wrap64 (Int.tdiv (wrap64 (x7+x8)) 2)) x6 (wrap64 ((wrap64 (Int.tdiv (wrap64 (x7+x8)) 2))+1)) x8) else (impl_halves.l0 k x0 x5 x6 x7 (wrap64 ((wrap64 (Int.tdiv (wrap64 (x7+x8)) 2)) - 1)))) else (if (wrap64 (x5*x5))=x6 then (impl_halves.j1 k x0 x5 ((Int.tmod (wrap64 (x0+x5)) 2) !=0)) else (impl_halves.j1 k x0 x5 true))
def impl_halves.j1:Nat→Int→Int→Bool→Option (List Int)
  |0,_,_,_=>none
  |k+1,x0,x5,x35=>if x35=true then (some ([]:List Int)) else (if x5=0 then (some (([wrap64 (Int.tdiv x0 2)]:List Int))) else (some (([wrap64 (Int.tdiv (wrap64 (x0 - x5)) 2),wrap64 (Int.tdiv (wrap64 (x0+x5)) 2)]:List Int))))
end
def impl_halves.f (k:Nat) (a0:Int) (a1:Int):Option (List Int):=if (wrap64 ((wrap64 (a0*a0)) - (wrap64 (4*a1))))<0 then (some ([]:List Int)) else (impl_halves.l0 k a0 0 (wrap64 ((wrap64 (a0*a0)) - (wrap64 (4*a1)))) 0 2147483648)
theorem impl_halves.mono_l:∀k,(∀y0 y1 y2 y3 y4,LeO (impl_halves.l0 k y0 y1 y2 y3 y4) (impl_halves.l0 (k+1) y0 y1 y2 y3 y4))∧(∀y0 y1 y2,LeO (impl_halves.j1 k y0 y1 y2) (impl_halves.j1 (k+1) y0 y1 y2))
  |0=>⟨fun _ _ _ _ _ r h=>by simp [impl_halves.l0] at h,fun _ _ _ r h=>by simp [impl_halves.j1] at h⟩
  |k+1=>by
    obtain⟨ih0,ih1⟩:=impl_halves.mono_l k;refine⟨?_,?_⟩
    · intro y0 y1 y2 y3 y4
      unfold impl_halves.l0;repeat' first
      |(with_reducible exact ih0 _ _ _ _ _)
      |(with_reducible exact ih1 _ _ _)
      |(with_reducible exact LeO.refl _)
      |(with_reducible exact LeO.none _)
      |(with_reducible refine LeO.ite ?_ ?_)
      |(with_reducible refine LeO.bind ?_ (fun _=>?_))
      |exact ih0 _ _ _ _ _
      |exact ih1 _ _ _
      |exact LeO.none _
      |refine LeO.ite ?_ ?_
      |refine LeO.bind ?_ (fun _=>?_)
    · intro y0 y1 y2
      unfold impl_halves.j1;repeat' first
      |(with_reducible exact ih0 _ _ _ _ _)
      |(with_reducible exact ih1 _ _ _)
      |(with_reducible exact LeO.refl _)
      |(with_reducible exact LeO.none _)
      |(with_reducible refine LeO.ite ?_ ?_)
      |(with_reducible refine LeO.bind ?_ (fun _=>?_))
      |exact ih0 _ _ _ _ _
      |exact ih1 _ _ _
      |exact LeO.none _
      |refine LeO.ite ?_ ?_
      |refine LeO.bind ?_ (fun _=>?_)
theorem impl_halves.mono:∀a0 a1 k,LeO (impl_halves.f k a0 a1) (impl_halves.f (k+1) a0 a1):=by
  intro a0 a1 k;obtain⟨ih0,ih1⟩:=impl_halves.mono_l k;unfold impl_halves.f;repeat' first
      |(with_reducible exact ih0 _ _ _ _ _)
      |(with_reducible exact ih1 _ _ _)
      |(with_reducible exact LeO.refl _)
      |(with_reducible exact LeO.none _)
      |(with_reducible refine LeO.ite ?_ ?_)
      |(with_reducible refine LeO.bind ?_ (fun _=>?_))
      |exact ih0 _ _ _ _ _
      |exact ih1 _ _ _
      |exact LeO.none _
      |refine LeO.ite ?_ ?_
      |refine LeO.bind ?_ (fun _=>?_)
set_option maxHeartbeats 8000000 in
set_option maxRecDepth 100000 in
theorem impl_halves.calls (k:Nat) (a0:Int) (a1:Int) (r:List Int) (w:World) (h:impl_halves.f k a0 a1=some r):
    Calls Try.prog 64 #[.int .i64 a0,.int .i64 a1] w fun e w'=>∃v0_:Value,e=.returned (v0_)∧Kd.R (Kd.int .i64) 2 w' w.heap.size (fun _=>True) v0_ r∧Below w.heap.size w w':=by
  have HB:=qAm (Below.refl w.heap.size w);have H:(if (wrap64 ((wrap64 (a0*a0)) - (wrap64 (4*a1))))<0 then (some ([]:List Int)) else (impl_halves.l0 k a0 0 (wrap64 ((wrap64 (a0*a0)) - (wrap64 (4*a1)))) 0 2147483648))=some r:=h;clear h
  by_cases c3:(wrap64 ((wrap64 (a0*a0)) - (wrap64 (4*a1))))<0
  · rw [if_pos c3] at H
    have c3b0:decide ((wrap64 ((wrap64 (a0*a0)) - (wrap64 (4*a1))))<0)=true:=decide_eq_true c3;clear c3;obtain rfl:=Option.some.inj H;go_enter Try.func64,Try.ntmps64;go_wp2;go_ret;exact⟨_,by first|rfl|(simp [errW_none,errW_some] <;> rfl)|(simp [*,errW_none,errW_some] <;> rfl),by first|exact Kd.R_nil _ _ _ _ _|exact Kd.N_nil _ _ _ _ _|exact Kd.V_nil _ _ _ _ _|exact Kd.Q_nil _ _ _ _ _|exact Kd.S_nil _ _ _ _ _,by repeat(first|(with_reducible first|exact HB.1|apply below_alloc|apply pw_below_drewN|apply below_drew1)|exact HB.1)⟩
  · rw [if_neg c3] at H
    have c3b0:decide ((wrap64 ((wrap64 (a0*a0)) - (wrap64 (4*a1))))<0)=false:=decide_eq_false c3;clear c3;have H':=qAm H;clear H;go_enter Try.func64,Try.ntmps64;go_wp2;try simp only [Act.put,qSa,qSc,qSb]
    go_loopg [5,7,8] k (fun kq v5 v7 v8 w'=>∃(x5_1:Int) (x7_1:Int) (x8_1:Int),v5=.int .i64 x5_1∧v7=.int .i64 x7_1∧v8=.int .i64 x8_1∧Aside0 (impl_halves.l0 kq a0 x5_1 (wrap64 ((wrap64 (a0*a0)) - (wrap64 (4*a1)))) x7_1 x8_1=some r)∧Aside0 (kq≤k)∧Aside0 (Below w.heap.size w w'))
    case atStart=>exact⟨(0),(0),(2147483648),qB37,qB37,qB37,H',⟨Nat.le_refl _⟩,⟨by repeat(first|(with_reducible first|exact HB.1|apply below_alloc|apply pw_below_drewN|apply below_drew1)|exact HB.1)⟩⟩
    case round=>
      clear H';try clear p2
      try clear c3
      try clear c3b0
      obtain⟨x5_1,x7_1,x8_1,rfl,rfl,rfl,HA,HK1,HB⟩:=hrel;cases gk with
      |zero=>exact absurd HA.1 (by simp [impl_halves.l0])
      |succ k1=>
        have H:=HA.1;clear HA;simp only [impl_halves.l0] at H
        by_cases c4:x7_1≤x8_1
        · rw [if_pos c4] at H
          have c4b0:decide (x7_1≤x8_1)=true:=decide_eq_true c4;clear c4
          by_cases c5:(wrap64 ((wrap64 (Int.tdiv (wrap64 (x7_1+x8_1)) 2))*(wrap64 (Int.tdiv (wrap64 (x7_1+x8_1)) 2))))≤(wrap64 ((wrap64 (a0*a0)) - (wrap64 (4*a1))))
          · rw [if_pos c5] at H
            have c5b0:decide ((wrap64 ((wrap64 (Int.tdiv (wrap64 (x7_1+x8_1)) 2))*(wrap64 (Int.tdiv (wrap64 (x7_1+x8_1)) 2))))≤(wrap64 ((wrap64 (a0*a0)) - (wrap64 (4*a1)))))=true:=decide_eq_true c5;clear c5;have H':=qAm H;clear H;go_wp2
            (first|go_roundg k1|((try simp only [add_plain] at *);go_roundg k1))
            case measure=>have:=HK1.1;omega
            case rel=>exact⟨(wrap64 (Int.tdiv (wrap64 (x7_1+x8_1)) 2)),(wrap64 ((wrap64 (Int.tdiv (wrap64 (x7_1+x8_1)) 2))+1)),(x8_1),qB37,qB37,qB37,H',⟨by have:=HK1.1;omega⟩,⟨by repeat(first|(with_reducible first|exact HB.1|apply below_alloc|apply pw_below_drewN|apply below_drew1)|exact HB.1)⟩⟩
          · rw [if_neg c5] at H
            have c5b0:decide ((wrap64 ((wrap64 (Int.tdiv (wrap64 (x7_1+x8_1)) 2))*(wrap64 (Int.tdiv (wrap64 (x7_1+x8_1)) 2))))≤(wrap64 ((wrap64 (a0*a0)) - (wrap64 (4*a1)))))=false:=decide_eq_false c5;clear c5;have H':=qAm H;clear H;go_wp2
            (first|go_roundg k1|((try simp only [add_plain] at *);go_roundg k1))
            case measure=>have:=HK1.1;omega
            case rel=>exact⟨(x5_1),(x7_1),(wrap64 ((wrap64 (Int.tdiv (wrap64 (x7_1+x8_1)) 2)) - 1)),qB37,qB37,qB37,H',⟨by have:=HK1.1;omega⟩,⟨by repeat(first|(with_reducible first|exact HB.1|apply below_alloc|apply pw_below_drewN|apply below_drew1)|exact HB.1)⟩⟩
        · rw [if_neg c4] at H
          have c4b0:decide (x7_1≤x8_1)=false:=decide_eq_false c4;clear c4;have HC6:=qAm H;clear H;go_upto_region 12 with (fail)
          go_cut [35] (fun v35 wc=>∃(kq:Nat) (x35_5:Bool),v35=.bool x35_5∧Aside0 (impl_halves.j1 kq a0 x5_1 x35_5=some r)∧Aside0 (kq≤k1)∧Aside0 (Below w.heap.size w wc))
          case first=>
            have H:=HC6.1;clear HC6
            by_cases c7:(wrap64 (x5_1*x5_1))=(wrap64 ((wrap64 (a0*a0)) - (wrap64 (4*a1))))
            · rw [if_pos c7] at H
              have c7b0:((wrap64 (x5_1*x5_1))==(wrap64 ((wrap64 (a0*a0)) - (wrap64 (4*a1)))))=true:=beq_iff_eq.mpr c7;have c7b1:((wrap64 (x5_1*x5_1)) !=(wrap64 ((wrap64 (a0*a0)) - (wrap64 (4*a1)))))=false:=bne_eq_false_iff_eq.mpr c7;clear c7
              (first|rw [c7b0]|(simp only [i64_w,i32_w];rw [c7b0])|skip)
              have H':=qAm H;clear H;go_wp2;go_meet
              case rel=>exact⟨_,(((Int.tmod (wrap64 (a0+x5_1)) 2) !=0)),qB37,H',⟨by have:=HK1.1;first|omega|exact Nat.le_refl _⟩,⟨by repeat(first|(with_reducible first|exact HB.1|apply below_alloc|apply pw_below_drewN|apply below_drew1)|exact HB.1)⟩⟩
            · rw [if_neg c7] at H
              have c7b0:((wrap64 (x5_1*x5_1))==(wrap64 ((wrap64 (a0*a0)) - (wrap64 (4*a1)))))=false:=beq_eq_false_iff_ne.mpr c7;have c7b1:((wrap64 (x5_1*x5_1)) !=(wrap64 ((wrap64 (a0*a0)) - (wrap64 (4*a1)))))=true:=bne_iff_ne.mpr c7
              (first|rw [c7b0]|(simp only [i64_w,i32_w];rw [c7b0])|skip)
              have H':=qAm H;clear H;go_wp2;go_meet
              case rel=>exact⟨_,(true),qB37,H',⟨by have:=HK1.1;first|omega|exact Nat.le_refl _⟩,⟨by repeat(first|(with_reducible first|exact HB.1|apply below_alloc|apply pw_below_drewN|apply below_drew1)|exact HB.1)⟩⟩
          case rest=>
            clear HC6;try clear p2
            try clear c3
            try clear c3b0
            try clear c4
            try clear c4b0
            try clear c5
            try clear c5b0
            try clear c6
            try clear p6
            try clear c7
            try clear c7b0
            try clear c7b1
            try clear p2
            obtain⟨kq,x35_5,rfl,HA,HJ5,HB⟩:=hcut;cases kq with
            |zero=>exact absurd HA.1 (by simp [impl_halves.j1])
            |succ kj5=>
              have H:=HA.1;clear HA;simp only [impl_halves.j1] at H
              by_cases c8:x35_5=true
              · subst c8
                have H1:(some ([]:List Int))=some r:=by rw [if_pos rfl] at H;exact H
                clear H;have H:=H1;clear H1;obtain rfl:=Option.some.inj H;go_wp2;go_ret;exact⟨_,by first|rfl|(simp [errW_none,errW_some] <;> rfl)|(simp [*,errW_none,errW_some] <;> rfl),by first|exact Kd.R_nil _ _ _ _ _|exact Kd.N_nil _ _ _ _ _|exact Kd.V_nil _ _ _ _ _|exact Kd.Q_nil _ _ _ _ _|exact Kd.S_nil _ _ _ _ _,by repeat(first|(with_reducible first|exact HB.1|apply below_alloc|apply pw_below_drewN|apply below_drew1)|exact HB.1)⟩
              · replace c8:=Bool.eq_false_iff.mpr c8
                subst c8;have H1:(if x5_1=0 then (some (([wrap64 (Int.tdiv a0 2)]:List Int))) else (some (([wrap64 (Int.tdiv (wrap64 (a0 - x5_1)) 2),wrap64 (Int.tdiv (wrap64 (a0+x5_1)) 2)]:List Int))))=some r:=by rw [if_neg (show ¬(false=true) by decide)] at H;exact H
                clear H;have H:=H1;clear H1
                by_cases c9:x5_1=0
                · rw [if_pos c9] at H
                  have c9b0:(x5_1==0)=true:=beq_iff_eq.mpr c9;have c9b1:(x5_1 !=0)=false:=bne_eq_false_iff_eq.mpr c9;clear c9;obtain⟨y165,hy165⟩:∃y_:List Int,y_=(([wrap64 (Int.tdiv a0 2)]:List Int)):=⟨_,rfl⟩
                  replace H:(some y165)=some r:=by first|(rw [hy165];with_reducible exact H)|(have H2_:=(Option.bind_some _ _).symm.trans H;rw [hy165];with_reducible exact H2_)|(have H2_:=(Option.bind_some _ _).symm.trans H;with_reducible exact H2_)|with_reducible exact H|(rw [hy165];exact H)|exact H
                  have Ny165:=qAm hy165;clear hy165;obtain rfl:=Option.some.inj H;go_wp2_with (first|((with_reducible refine gate_dst (N:=53) rfl ?_);refine Kd.R_lit (Kd.int .i64) _ 2 ?hg (N:=53) ?hd (xs:=([wrap64 (Int.tdiv a0 2)]:List Int)) (inner:=[.int .i64 (wrap64 (Int.tdiv a0 2))]) (ok:=fun _=>True) (okp:=fun _=>True) ?hr ?hp (fun _ hk=>hk) trivial (Below.refl _ _) (Nat.le_refl _) (by simp) ?_;(case hd=>rfl);(case hg=>rfl);(case hr=>first|(go_simp;done)|(go_simp;rfl));(case hp=>exact(Reps.one (show Kd.M (Kd.int .i64) _ _ _ (wrap64 (Int.tdiv a0 2)) [.int .i64 (wrap64 (Int.tdiv a0 2))] from rfl) (Reps.none _ _)));intro v166 w10 ho11 hb hg_ hnew_;clear hg_ hnew_;(first|rw [← Ny165.1] at ho11|(simp only [Int.reduceToNat] at ho11;rw [← Ny165.1] at ho11));have n0_:=qAm (Kd.R_lower ho11 (below_size qB16));have n1_:=qAm (below_step qB16 hb);clear HB;have HO167:=n0_;have HB:=n1_;clear n0_ n1_;clear hb ho11));go_ret;exact⟨_,by first|rfl|(simp [errW_none,errW_some] <;> rfl)|(simp [*,errW_none,errW_some] <;> rfl),by (with_reducible repeat(first|apply Kd.R_alloc|apply Kd.R_drewN|apply Kd.R_drew));exact HO167.1,by repeat(first|(with_reducible first|exact HB.1|apply below_alloc|apply pw_below_drewN|apply below_drew1)|exact HB.1)⟩
                · rw [if_neg c9] at H
                  have c9b0:(x5_1==0)=false:=beq_eq_false_iff_ne.mpr c9;have c9b1:(x5_1 !=0)=true:=bne_iff_ne.mpr c9;obtain⟨y168,hy168⟩:∃y_:List Int,y_=(([wrap64 (Int.tdiv (wrap64 (a0 - x5_1)) 2),wrap64 (Int.tdiv (wrap64 (a0+x5_1)) 2)]:List Int)):=⟨_,rfl⟩
                  replace H:(some y168)=some r:=by first|(rw [hy168];with_reducible exact H)|(have H2_:=(Option.bind_some _ _).symm.trans H;rw [hy168];with_reducible exact H2_)|(have H2_:=(Option.bind_some _ _).symm.trans H;with_reducible exact H2_)|with_reducible exact H|(rw [hy168];exact H)|exact H
                  have Ny168:=qAm hy168;clear hy168;obtain rfl:=Option.some.inj H;go_wp2_with (first|((with_reducible refine gate_dst (N:=62) rfl ?_);refine Kd.R_lit (Kd.int .i64) _ 2 ?hg (N:=62) ?hd (xs:=([wrap64 (Int.tdiv (wrap64 (a0 - x5_1)) 2),wrap64 (Int.tdiv (wrap64 (a0+x5_1)) 2)]:List Int)) (inner:=[.int .i64 (wrap64 (Int.tdiv (wrap64 (a0 - x5_1)) 2)),.int .i64 (wrap64 (Int.tdiv (wrap64 (a0+x5_1)) 2))]) (ok:=fun _=>True) (okp:=fun _=>True) ?hr ?hp (fun _ hk=>hk) trivial (Below.refl _ _) (Nat.le_refl _) (by simp) ?_;(case hd=>rfl);(case hg=>rfl);(case hr=>first|(go_simp;done)|(go_simp;rfl));(case hp=>exact(Reps.one (show Kd.M (Kd.int .i64) _ _ _ (wrap64 (Int.tdiv (wrap64 (a0 - x5_1)) 2)) [.int .i64 (wrap64 (Int.tdiv (wrap64 (a0 - x5_1)) 2))] from rfl) (Reps.one (show Kd.M (Kd.int .i64) _ _ _ (wrap64 (Int.tdiv (wrap64 (a0+x5_1)) 2)) [.int .i64 (wrap64 (Int.tdiv (wrap64 (a0+x5_1)) 2))] from rfl) (Reps.none _ _))));intro v169 w12 ho13 hb hg_ hnew_;clear hg_ hnew_;(first|rw [← Ny168.1] at ho13|(simp only [Int.reduceToNat] at ho13;rw [← Ny168.1] at ho13));have n0_:=qAm (Kd.R_lower ho13 (below_size qB16));have n1_:=qAm (below_step qB16 hb);clear HB;have HO170:=n0_;have HB:=n1_;clear n0_ n1_;clear hb ho13));go_ret;exact⟨_,by first|rfl|(simp [errW_none,errW_some] <;> rfl)|(simp [*,errW_none,errW_some] <;> rfl),by (with_reducible repeat(first|apply Kd.R_alloc|apply Kd.R_drewN|apply Kd.R_drew));exact HO170.1,by repeat(first|(with_reducible first|exact HB.1|apply below_alloc|apply pw_below_drewN|apply below_drew1)|exact HB.1)⟩

/-! ### impl_primesOver: function 50 -/
mutual
def impl_primesOver.l0:Nat→Int→List (S54)→Int→Option ((List (S54)))
  |0,_,_,_=>none
  |k+1,x0,x3,x4=>if (wrap64 ((wrap64 (3*x4))*x4))≤(wrap64 (4*x0)) then ((impl_halves.f k x4 (wrap64 ((wrap64 (x4*x4)) - x0))).bind fun t177=>(impl_primesOver.l1 k x0 x3 x4 t177 (t177.length:Int) 0)) else (some x3)
def impl_primesOver.l1:Nat→Int→List (S54)→Int→List Int→Int→Int→Option ((List (S54)))
  |0,_,_,_,_,_,_=>none
  |k+1,x0,x3,x4,x29,x30,x31=>if x31<x30 then (if 0≤x31 then (if x31<(x29.length:Int) then ((impl_within.f (rd x29 x31) 0 (wrap64 (x4 - 1))).bind fun t181=>(if t181=true then (if x3.length<8796093022208 then (impl_primesOver.l1 k x0 (x3 ++ [(⟨x4,rd x29 x31⟩:S54)]) x4 x29 x30 (wrap64 (x31+1))) else (none)) else (impl_primesOver.l1 k x0 x3 x4 x29 x30 (wrap64 (x31+1))))) else (none)) else (none)) else (impl_primesOver.l0 k x0 x3 (wrap64 (x4+1)))
end
def impl_primesOver.f (k:Nat) (a0:Int):Option ((List (S54))):=if (Int.tmod a0 3)=2 then (some (([(⟨a0,0⟩:S54)]:List (S54)))) else (impl_primesOver.l0 k a0 (([]:List (S54))) 1)
theorem impl_primesOver.mono_l:∀k,(∀y0 y1 y2,LeO (impl_primesOver.l0 k y0 y1 y2) (impl_primesOver.l0 (k+1) y0 y1 y2))∧(∀y0 y1 y2 y3 y4 y5,LeO (impl_primesOver.l1 k y0 y1 y2 y3 y4 y5) (impl_primesOver.l1 (k+1) y0 y1 y2 y3 y4 y5))
  |0=>⟨fun _ _ _ r h=>by simp [impl_primesOver.l0] at h,fun _ _ _ _ _ _ r h=>by simp [impl_primesOver.l1] at h⟩
  |k+1=>by
    obtain⟨ih0,ih1⟩:=impl_primesOver.mono_l k;refine⟨?_,?_⟩
    · intro y0 y1 y2
      unfold impl_primesOver.l0;repeat' first
      |(with_reducible exact ih0 _ _ _)
      |(with_reducible exact ih1 _ _ _ _ _ _)
      |(with_reducible exact impl_halves.mono _ _ _)
      |(with_reducible exact LeO.refl _)
      |(with_reducible exact LeO.none _)
      |(with_reducible refine LeO.ite ?_ ?_)
      |(with_reducible refine LeO.bind ?_ (fun _=>?_))
      |exact ih0 _ _ _
      |exact ih1 _ _ _ _ _ _
      |exact impl_halves.mono _ _ _
      |exact LeO.none _
      |refine LeO.ite ?_ ?_
      |refine LeO.bind ?_ (fun _=>?_)
    · intro y0 y1 y2 y3 y4 y5
      unfold impl_primesOver.l1;repeat' first
      |(with_reducible exact ih0 _ _ _)
      |(with_reducible exact ih1 _ _ _ _ _ _)
      |(with_reducible exact impl_halves.mono _ _ _)
      |(with_reducible exact LeO.refl _)
      |(with_reducible exact LeO.none _)
      |(with_reducible refine LeO.ite ?_ ?_)
      |(with_reducible refine LeO.bind ?_ (fun _=>?_))
      |exact ih0 _ _ _
      |exact ih1 _ _ _ _ _ _
      |exact impl_halves.mono _ _ _
      |exact LeO.none _
      |refine LeO.ite ?_ ?_
      |refine LeO.bind ?_ (fun _=>?_)
theorem impl_primesOver.mono:∀a0 k,LeO (impl_primesOver.f k a0) (impl_primesOver.f (k+1) a0):=by
  intro a0 k;obtain⟨ih0,ih1⟩:=impl_primesOver.mono_l k;unfold impl_primesOver.f;repeat' first
      |(with_reducible exact ih0 _ _ _)
      |(with_reducible exact ih1 _ _ _ _ _ _)
      |(with_reducible exact impl_halves.mono _ _ _)
      |(with_reducible exact LeO.refl _)
      |(with_reducible exact LeO.none _)
      |(with_reducible refine LeO.ite ?_ ?_)
      |(with_reducible refine LeO.bind ?_ (fun _=>?_))
      |exact ih0 _ _ _
      |exact ih1 _ _ _ _ _ _
      |exact impl_halves.mono _ _ _
      |exact LeO.none _
      |refine LeO.ite ?_ ?_
      |refine LeO.bind ?_ (fun _=>?_)
set_option maxHeartbeats 8000000 in
set_option maxRecDepth 100000 in
theorem impl_primesOver.calls (k:Nat) (a0:Int) (r:List (S54)) (w:World) (h:impl_primesOver.f k a0=some r):
    Calls Try.prog 50 #[.int .i64 a0] w fun e w'=>∃v0_:Value,e=.returned (v0_)∧Kd.R k54 54 w' w.heap.size (fun _=>True) v0_ r∧Below w.heap.size w w':=by
  have hu54:=Try.underlying54;have HB:=qAm (Below.refl w.heap.size w);have H:(if (Int.tmod a0 3)=2 then (some (([(⟨a0,0⟩:S54)]:List (S54)))) else (impl_primesOver.l0 k a0 (([]:List (S54))) 1))=some r:=h;clear h
  by_cases c2:(Int.tmod a0 3)=2
  · rw [if_pos c2] at H
    have c2b0:((Int.tmod a0 3)==2)=true:=beq_iff_eq.mpr c2;have c2b1:((Int.tmod a0 3) !=2)=false:=bne_eq_false_iff_eq.mpr c2;clear c2;obtain⟨y171,hy171⟩:∃y_:List (S54),y_=(([(⟨a0,0⟩:S54)]:List (S54))):=⟨_,rfl⟩
    replace H:(some y171)=some r:=by first|(rw [hy171];with_reducible exact H)|(have H2_:=(Option.bind_some _ _).symm.trans H;rw [hy171];with_reducible exact H2_)|(have H2_:=(Option.bind_some _ _).symm.trans H;with_reducible exact H2_)|with_reducible exact H|(rw [hy171];exact H)|exact H
    have Ny171:=qAm hy171;clear hy171;obtain rfl:=Option.some.inj H;go_enter Try.func50,Try.ntmps50;go_wp2_with (first|((with_reducible refine gate_dst (N:=12) rfl ?_);refine Kd.R_lit k54 _ 54 ?hg (N:=12) ?hd (xs:=([(⟨a0,0⟩:S54)]:List (S54))) (inner:=[.int .i64 a0,.int .i64 0]) (ok:=fun _=>True) (okp:=fun _=>True) ?hr ?hp (fun _ hk=>hk) trivial (Below.refl _ _) (Nat.le_refl _) (by simp) ?_;(case hd=>rfl);(case hg=>rfl);(case hr=>first|(go_simp;done)|(go_simp;rfl));(case hp=>exact(Reps.c2 (show Kd.M k54 _ _ _ (⟨a0,0⟩:S54) [.int .i64 a0,.int .i64 0] from (k54_mkM _ _ _ (⟨a0,0⟩:S54) )) (Reps.none _ _)));intro v172 w3 ho4 hb hg_ hnew_;clear hg_ hnew_;(first|rw [← Ny171.1] at ho4|(simp only [Int.reduceToNat] at ho4;rw [← Ny171.1] at ho4));have n0_:=qAm (Kd.R_lower ho4 (below_size qB16));have n1_:=qAm (below_step qB16 hb);clear HB;have HO173:=n0_;have HB:=n1_;clear n0_ n1_;clear hb ho4));go_ret;exact⟨_,by first|rfl|(simp [errW_none,errW_some] <;> rfl)|(simp [*,errW_none,errW_some] <;> rfl),by (with_reducible repeat(first|apply Kd.R_alloc|apply Kd.R_drewN|apply Kd.R_drew));exact HO173.1,by repeat(first|(with_reducible first|exact HB.1|apply below_alloc|apply pw_below_drewN|apply below_drew1)|exact HB.1)⟩
  · rw [if_neg c2] at H
    have c2b0:((Int.tmod a0 3)==2)=false:=beq_eq_false_iff_ne.mpr c2;have c2b1:((Int.tmod a0 3) !=2)=true:=bne_iff_ne.mpr c2;obtain⟨y174,hy174⟩:∃y_:List (S54),y_=(([]:List (S54))):=⟨_,rfl⟩
    replace H:(impl_primesOver.l0 k a0 y174 1)=some r:=by first|(rw [hy174];with_reducible exact H)|(have H2_:=(Option.bind_some _ _).symm.trans H;rw [hy174];with_reducible exact H2_)|(have H2_:=(Option.bind_some _ _).symm.trans H;with_reducible exact H2_)|with_reducible exact H|(rw [hy174];exact H)|exact H
    have Ny174:=qAm hy174;clear hy174;have H':=qAm H;clear H;go_enter Try.func50,Try.ntmps50;go_wp2_with (first|((with_reducible refine gate_dst (N:=13) rfl ?_);refine Kd.R_lit k54 _ 54 ?hg (N:=13) ?hd (xs:=([]:List (S54))) (inner:=[]) (ok:=fun _=>True) (okp:=fun _=>True) ?hr ?hp (fun _ hk=>hk) trivial (Below.refl _ _) (Nat.le_refl _) (by simp) ?_;(case hd=>rfl);(case hg=>rfl);(case hr=>first|(go_simp;done)|(go_simp;rfl));(case hp=>exact(Reps.none _ _));intro v175 w5 ho6 hb hg_ hnew_;clear hg_ hnew_;(first|rw [← Ny174.1] at ho6|(simp only [Int.reduceToNat] at ho6;rw [← Ny174.1] at ho6));have n0_:=qAm (Kd.R_lower ho6 (below_size qB16));have n1_:=qAm (below_step qB16 hb);clear HB;have HO176:=n0_;have HB:=n1_;clear n0_ n1_;clear hb ho6));try simp only [Act.put,qSa,qSc,qSb]
    go_loopg [3,4] k (fun kq v3 v4 w'=>∃(x3_1:List (S54)) (x4_1:Int),v4=.int .i64 x4_1∧Aside0 (impl_primesOver.l0 kq a0 x3_1 x4_1=some r)∧Aside0 (kq≤k)∧Aside0 (Kd.R k54 54 w' w.heap.size (fun _=>True) v3 x3_1)∧Aside0 (Below w.heap.size w w'))
    case atStart=>exact⟨(y174),(1),qB37,H',⟨Nat.le_refl _⟩,⟨by (with_reducible repeat(first|apply Kd.R_alloc|apply Kd.R_drewN|apply Kd.R_drew));exact HO176.1⟩,⟨by repeat(first|(with_reducible first|exact HB.1|apply below_alloc|apply pw_below_drewN|apply below_drew1)|exact HB.1)⟩⟩
    case round=>
      clear H';try clear c2
      try clear c2b0
      try clear c2b1
      try clear p2
      try clear c5
      obtain⟨x3_1,x4_1,rfl,HA,HK1,HO_3,HB⟩:=hrel;cases gk with
      |zero=>exact absurd HA.1 (by simp [impl_primesOver.l0])
      |succ k1=>
        have H:=HA.1;clear HA;simp only [impl_primesOver.l0] at H
        by_cases c7:(wrap64 ((wrap64 (3*x4_1))*x4_1))≤(wrap64 (4*a0))
        · rw [if_pos c7] at H
          have c7b0:decide ((wrap64 ((wrap64 (3*x4_1))*x4_1))≤(wrap64 (4*a0)))=true:=decide_eq_true c7;clear c7;replace H:=qOb H;obtain⟨t177,A80,H⟩:=H;replace H:(impl_primesOver.l1 k1 a0 x3_1 x4_1 t177 (t177.length:Int) 0)=some r:=H;have A8:=qAm A80;clear A80;have H':=qAm H;clear H;go_wp2_with (first|((with_reducible refine gate_callee (f:=64) rfl ?_);refine goesL_ (some 29) rfl rfl Try.func64 (by kernel_rfl) rfl #[.int .i64 x4_1,.int .i64 (wrap64 ((wrap64 (x4_1*x4_1)) - a0))] rfl qB15 ?_;(with_reducible refine(impl_halves.calls k1 x4_1 (wrap64 ((wrap64 (x4_1*x4_1)) - a0)) t177 _ A8.1).mono ?_);rintro e w9 ⟨v178,rfl,ho0,hb⟩;refine⟨_,rfl,?_⟩;have n0_:=qAm (Kd.R_below qB33 hb);have n1_:=qAm (Kd.R_lower ho0 (below_size qB16));have n2_:=qAm (below_step qB16 hb);clear HO_3;clear HB;have HO_3:=n0_;have HO179:=n1_;have HB:=n2_;clear n0_ n1_ n2_;(try clear hb);(try clear hb2);(try clear hk);(try clear hi);(try clear ho0);obtain⟨Ao10,co10,eo10⟩:=Kd.R_slice HO179.1;subst eo10));try simp only [Act.put,qSa,qSc,qSb]
          go_loopg [3,31] k1 (fun kq v3 v31 w'=>∃(x3_2:List (S54)) (x31_2:Int),v31=.int .i64 x31_2∧Aside0 (impl_primesOver.l1 kq a0 x3_2 x4_1 t177 (t177.length:Int) x31_2=some r)∧Aside0 (kq≤k1)∧Aside0 (Kd.R k54 54 w' w.heap.size (fun _=>True) v3 x3_2)∧Aside0 (Kd.R (Kd.int .i64) 2 w' w.heap.size (fun _=>True) (.slice Ao10 t177.length co10) t177)∧Aside0 (Below w.heap.size w w'))
          case atStart=>exact⟨(x3_1),(0),qB37,H',⟨Nat.le_refl _⟩,⟨by (with_reducible repeat(first|apply Kd.R_alloc|apply Kd.R_drewN|apply Kd.R_drew));exact HO_3.1⟩,⟨by (with_reducible repeat(first|apply Kd.R_alloc|apply Kd.R_drewN|apply Kd.R_drew));exact HO179.1⟩,⟨by repeat(first|(with_reducible first|exact HB.1|apply below_alloc|apply pw_below_drewN|apply below_drew1)|exact HB.1)⟩⟩
          case round=>
            clear H';try clear c2
            try clear c2b0
            try clear c2b1
            try clear p2
            try clear c5
            try clear c6
            try clear p6
            try clear c7
            try clear c7b0
            try clear p2
            obtain⟨x3_2,x31_2,rfl,HA,HK2,HO_3,HO_29,HB⟩:=hrel;cases gk with
            |zero=>exact absurd HA.1 (by simp [impl_primesOver.l1])
            |succ k2=>
              have H:=HA.1;clear HA;simp only [impl_primesOver.l1] at H
              by_cases c11:x31_2<(t177.length:Int)
              · rw [if_pos c11] at H
                have c11b0:decide (x31_2<(t177.length:Int))=true:=decide_eq_true c11;clear c11
                by_cases c12:0≤x31_2
                · rw [if_pos c12] at H
                  have c12b0:decide (0≤x31_2)=true:=decide_eq_true c12;clear c12
                  by_cases c13:x31_2<(t177.length:Int)
                  · rw [if_pos c13] at H
                    have c13b0:decide (x31_2<(t177.length:Int))=true:=decide_eq_true c13;clear c13;replace H:=qOb H;obtain⟨t181,A140,H⟩:=H;replace H:(if t181=true then (if x3_2.length<8796093022208 then (impl_primesOver.l1 k2 a0 (x3_2 ++ [(⟨x4_1,rd t177 x31_2⟩:S54)]) x4_1 t177 (t177.length:Int) (wrap64 (x31_2+1))) else (none)) else (impl_primesOver.l1 k2 a0 x3_2 x4_1 t177 (t177.length:Int) (wrap64 (x31_2+1))))=some r:=H;have A14:=qAm A140;clear A140
                    by_cases c15:t181=true
                    · subst c15
                      have H1:(if x3_2.length<8796093022208 then (impl_primesOver.l1 k2 a0 (x3_2 ++ [(⟨x4_1,rd t177 x31_2⟩:S54)]) x4_1 t177 (t177.length:Int) (wrap64 (x31_2+1))) else (none))=some r:=by rw [if_pos rfl] at H;exact H
                      clear H;have H:=H1;clear H1
                      by_cases c16:x3_2.length<8796093022208
                      · rw [if_pos c16] at H
                        have LMc16:=qAm c16;clear c16;obtain⟨y182,hy182⟩:∃y_:List (S54),y_=(x3_2 ++ [(⟨x4_1,rd t177 x31_2⟩:S54)]):=⟨_,rfl⟩
                        replace H:(impl_primesOver.l1 k2 a0 y182 x4_1 t177 (t177.length:Int) (wrap64 (x31_2+1)))=some r:=by first|(rw [hy182];with_reducible exact H)|(have H2_:=(Option.bind_some _ _).symm.trans H;rw [hy182];with_reducible exact H2_)|(have H2_:=(Option.bind_some _ _).symm.trans H;with_reducible exact H2_)|with_reducible exact H|(rw [hy182];exact H)|exact H
                        have Ny182:=qAm hy182;clear hy182;have H':=qAm H;clear H;have p180:0≤(x31_2:Int):=of_decide_eq_true qB36;have q180:x31_2<(t177.length:Int):=of_decide_eq_true qB36;obtain⟨ad180,e180,hx180_0⟩:=Kd.at_int (Kd.R_reads' HO_29.1).2.2 x31_2 p180 q180;cases e180
                        replace p180:=eq_true p180;replace q180:=eq_true q180;go_wp2_with (first|((with_reducible refine gate_callee (f:=48) rfl ?_);refine goesL_ (some 38) rfl rfl Try.func48 (by kernel_rfl) rfl #[.int .i64 (rd t177 x31_2),.int .i64 0,.int .i64 (wrap64 (x4_1 - 1))] rfl qB15 ?_;(with_reducible refine(impl_within.calls (rd t177 x31_2) 0 (wrap64 (x4_1 - 1)) true _ A14.1).mono ?_);rintro e w' ⟨rfl,⟨nd,rfl⟩⟩;refine⟨_,rfl,?_⟩)|((with_reducible refine gate_builtin (b:=.append) (xs:=#[.tmp 39,.tmp 43]) rfl ?_);at_builtin;refine Kd.R_append k54 (w0:=w) w.heap.size rfl (.tmp 39) (.tmp 43) 50 54 (.agg #[(.int .i64 0),(.int .i64 0)]) 16 rfl Try.underlying50 info54 rfl (by decide) (by omega) u3 x3_2 (⟨x4_1,rd t177 x31_2⟩:S54) [.int .i64 x4_1,.int .i64 (rd t177 x31_2)] (fun _=>True) (fun _=>False) rfl rfl ?aP (fun _ hk=>hk.elim) ?aF ?aO ?aB ?aS ?aL ?_;(case aP=>exact k54_mkM _ _ _ (⟨x4_1,rd t177 x31_2⟩:S54));(case aB=>exact qB16);(case aF=>exact(fun _ _=>trivial));(case aO=>exact qB33);(case aS=>exact(below_size qB16));(case aL=>have:=LMc16.1;omega);intro v183 w17 ho hb hg hat;rw [← Ny182.1] at ho;have n0_:=qAm (Kd.R_over' (by (with_reducible repeat(first|apply Kd.R_alloc|apply Kd.R_drewN|apply Kd.R_drew));exact HO_29.1) (Kd.R_typed qB33) (by decide) hg);have n1_:=qAm (hb);have n2_:=qAm (ho);clear HO_29;clear HB;clear HO_3;have HO_29:=n0_;have HB:=n1_;have HO184:=n2_;clear n0_ n1_ n2_;clear ho hb hg hat))
                        (first|go_roundg k2|((try simp only [add_plain] at *);go_roundg k2))
                        case measure=>have:=HK1.1;have:=HK2.1;omega
                        case rel=>exact⟨(y182),(wrap64 (x31_2+1)),qB37,H',⟨by have:=HK1.1;have:=HK2.1;omega⟩,⟨by (with_reducible repeat(first|apply Kd.R_alloc|apply Kd.R_drewN|apply Kd.R_drew));exact HO184.1⟩,⟨by (with_reducible repeat(first|apply Kd.R_alloc|apply Kd.R_drewN|apply Kd.R_drew));exact HO_29.1⟩,⟨by repeat(first|(with_reducible first|exact HB.1|apply below_alloc|apply pw_below_drewN|apply below_drew1)|exact HB.1)⟩⟩
                      · rw [if_neg c16] at H
                        exact absurd H (by simp)
                    · replace c15:=Bool.eq_false_iff.mpr c15
                      subst c15;have H1:(impl_primesOver.l1 k2 a0 x3_2 x4_1 t177 (t177.length:Int) (wrap64 (x31_2+1)))=some r:=by rw [if_neg (show ¬(false=true) by decide)] at H;exact H
                      clear H;have H:=H1;clear H1;have H':=qAm H;clear H;have p180:0≤(x31_2:Int):=of_decide_eq_true qB36;have q180:x31_2<(t177.length:Int):=of_decide_eq_true qB36;obtain⟨ad180,e180,hx180_0⟩:=Kd.at_int (Kd.R_reads' HO_29.1).2.2 x31_2 p180 q180;cases e180
                      replace p180:=eq_true p180;replace q180:=eq_true q180;go_wp2_with (first|((with_reducible refine gate_callee (f:=48) rfl ?_);refine goesL_ (some 38) rfl rfl Try.func48 (by kernel_rfl) rfl #[.int .i64 (rd t177 x31_2),.int .i64 0,.int .i64 (wrap64 (x4_1 - 1))] rfl qB15 ?_;(with_reducible refine(impl_within.calls (rd t177 x31_2) 0 (wrap64 (x4_1 - 1)) false _ A14.1).mono ?_);rintro e w' ⟨rfl,⟨nd,rfl⟩⟩;refine⟨_,rfl,?_⟩))
                      (first|go_roundg k2|((try simp only [add_plain] at *);go_roundg k2))
                      case measure=>have:=HK1.1;have:=HK2.1;omega
                      case rel=>exact⟨(x3_2),(wrap64 (x31_2+1)),qB37,H',⟨by have:=HK1.1;have:=HK2.1;omega⟩,⟨by (with_reducible repeat(first|apply Kd.R_alloc|apply Kd.R_drewN|apply Kd.R_drew));exact HO_3.1⟩,⟨by (with_reducible repeat(first|apply Kd.R_alloc|apply Kd.R_drewN|apply Kd.R_drew));exact HO_29.1⟩,⟨by repeat(first|(with_reducible first|exact HB.1|apply below_alloc|apply pw_below_drewN|apply below_drew1)|exact HB.1)⟩⟩
                  · rw [if_neg c13] at H
                    exact absurd H (by simp)
                · rw [if_neg c12] at H
                  exact absurd H (by simp)
              · rw [if_neg c11] at H
                have c11b0:decide (x31_2<(t177.length:Int))=false:=decide_eq_false c11;clear c11;have H':=qAm H;clear H;go_wp2
                (first|go_roundg k2|((try simp only [add_plain] at *);go_roundg k2))
                case measure=>have:=HK1.1;have:=HK2.1;omega
                case rel=>exact⟨(x3_2),(wrap64 (x4_1+1)),qB37,H',⟨by have:=HK1.1;have:=HK2.1;omega⟩,⟨by (with_reducible repeat(first|apply Kd.R_alloc|apply Kd.R_drewN|apply Kd.R_drew));exact HO_3.1⟩,⟨by repeat(first|(with_reducible first|exact HB.1|apply below_alloc|apply pw_below_drewN|apply below_drew1)|exact HB.1)⟩⟩
        · rw [if_neg c7] at H
          have c7b0:decide ((wrap64 ((wrap64 (3*x4_1))*x4_1))≤(wrap64 (4*a0)))=false:=decide_eq_false c7;clear c7;obtain rfl:=Option.some.inj H;go_wp2;go_ret;exact⟨_,by first|rfl|(simp [errW_none,errW_some] <;> rfl)|(simp [*,errW_none,errW_some] <;> rfl),by (with_reducible repeat(first|apply Kd.R_alloc|apply Kd.R_drewN|apply Kd.R_drew));exact HO_3.1,by repeat(first|(with_reducible first|exact HB.1|apply below_alloc|apply pw_below_drewN|apply below_drew1)|exact HB.1)⟩

/-! ### impl_PrimesOfNorm: function 19 -/
mutual
def impl_PrimesOfNorm.l0:Nat→Int→List (S26)→List Int→Int→Int→Option ((List (S26))×Int)
  |0,_,_,_,_,_=>none
  |k+1,x0,x4,x16,x17,x18=>if x18<x17 then (if 0≤x18 then (if x18<(x16.length:Int) then ((impl_primesOver.f k (rd x16 x18)).bind fun t193=>(impl_PrimesOfNorm.l1 k x0 x4 x16 x17 x18 t193 (t193.length:Int) 0)) else (none)) else (none)) else (some (x4,0))
def impl_PrimesOfNorm.l1:Nat→Int→List (S26)→List Int→Int→Int→List (S54)→Int→Int→Option ((List (S26))×Int)
  |0,_,_,_,_,_,_,_,_=>none
  |k+1,x0,x4,x16,x17,x18,x23,x24,x25=>if x25<x24 then (if 0≤x25 then (if x25<(x23.length:Int) then ((impl_cubic_norm.f ((rd_T54 x23 x25).f0) ((rd_T54 x23 x25).f1)).bind fun t198=>(if t198=x0 then ((impl_cubic_told.f ((rd_T54 x23 x25).f0) ((rd_T54 x23 x25).f1)).bind fun bt199=>(if x4.length<4398046511104 then (impl_PrimesOfNorm.l1 k x0 (x4 ++ [(⟨bt199.1,bt199.2.1⟩:S26)]) x16 x17 x18 x23 x24 (wrap64 (x25+1))) else (none))) else (impl_PrimesOfNorm.l1 k x0 x4 x16 x17 x18 x23 x24 (wrap64 (x25+1))))) else (none)) else (none)) else (impl_PrimesOfNorm.l0 k x0 x4 x16 x17 (wrap64 (x18+1)))
end
def impl_PrimesOfNorm.f (k:Nat) (a0:Int):Option ((List (S26))×Int):=(impl_within.f a0 1 1000000).bind fun t185=>(if t185=true then ((impl_factorsOf.f k a0).bind fun t189=>(impl_PrimesOfNorm.l0 k a0 (([]:List (S26))) t189 (t189.length:Int) 0)) else (some (([]:List (S26)),2)))
theorem impl_PrimesOfNorm.mono_l:∀k,(∀y0 y1 y2 y3 y4,LeO (impl_PrimesOfNorm.l0 k y0 y1 y2 y3 y4) (impl_PrimesOfNorm.l0 (k+1) y0 y1 y2 y3 y4))∧(∀y0 y1 y2 y3 y4 y5 y6 y7,LeO (impl_PrimesOfNorm.l1 k y0 y1 y2 y3 y4 y5 y6 y7) (impl_PrimesOfNorm.l1 (k+1) y0 y1 y2 y3 y4 y5 y6 y7))
  |0=>⟨fun _ _ _ _ _ r h=>by simp [impl_PrimesOfNorm.l0] at h,fun _ _ _ _ _ _ _ _ r h=>by simp [impl_PrimesOfNorm.l1] at h⟩
  |k+1=>by
    obtain⟨ih0,ih1⟩:=impl_PrimesOfNorm.mono_l k;refine⟨?_,?_⟩
    · intro y0 y1 y2 y3 y4
      unfold impl_PrimesOfNorm.l0;repeat' first
      |(with_reducible exact ih0 _ _ _ _ _)
      |(with_reducible exact ih1 _ _ _ _ _ _ _ _)
      |(with_reducible exact impl_factorsOf.mono _ _)
      |(with_reducible exact impl_primesOver.mono _ _)
      |(with_reducible exact LeO.refl _)
      |(with_reducible exact LeO.none _)
      |(with_reducible refine LeO.ite ?_ ?_)
      |(with_reducible refine LeO.bind ?_ (fun _=>?_))
      |exact ih0 _ _ _ _ _
      |exact ih1 _ _ _ _ _ _ _ _
      |exact impl_factorsOf.mono _ _
      |exact impl_primesOver.mono _ _
      |exact LeO.none _
      |refine LeO.ite ?_ ?_
      |refine LeO.bind ?_ (fun _=>?_)
    · intro y0 y1 y2 y3 y4 y5 y6 y7
      unfold impl_PrimesOfNorm.l1;repeat' first
      |(with_reducible exact ih0 _ _ _ _ _)
      |(with_reducible exact ih1 _ _ _ _ _ _ _ _)
      |(with_reducible exact impl_factorsOf.mono _ _)
      |(with_reducible exact impl_primesOver.mono _ _)
      |(with_reducible exact LeO.refl _)
      |(with_reducible exact LeO.none _)
      |(with_reducible refine LeO.ite ?_ ?_)
      |(with_reducible refine LeO.bind ?_ (fun _=>?_))
      |exact ih0 _ _ _ _ _
      |exact ih1 _ _ _ _ _ _ _ _
      |exact impl_factorsOf.mono _ _
      |exact impl_primesOver.mono _ _
      |exact LeO.none _
      |refine LeO.ite ?_ ?_
      |refine LeO.bind ?_ (fun _=>?_)
theorem impl_PrimesOfNorm.mono:∀a0 k,LeO (impl_PrimesOfNorm.f k a0) (impl_PrimesOfNorm.f (k+1) a0):=by
  intro a0 k;obtain⟨ih0,ih1⟩:=impl_PrimesOfNorm.mono_l k;unfold impl_PrimesOfNorm.f;repeat' first
      |(with_reducible exact ih0 _ _ _ _ _)
      |(with_reducible exact ih1 _ _ _ _ _ _ _ _)
      |(with_reducible exact impl_factorsOf.mono _ _)
      |(with_reducible exact impl_primesOver.mono _ _)
      |(with_reducible exact LeO.refl _)
      |(with_reducible exact LeO.none _)
      |(with_reducible refine LeO.ite ?_ ?_)
      |(with_reducible refine LeO.bind ?_ (fun _=>?_))
      |exact ih0 _ _ _ _ _
      |exact ih1 _ _ _ _ _ _ _ _
      |exact impl_factorsOf.mono _ _
      |exact impl_primesOver.mono _ _
      |exact LeO.none _
      |refine LeO.ite ?_ ?_
      |refine LeO.bind ?_ (fun _=>?_)
set_option maxHeartbeats 8000000 in
set_option maxRecDepth 100000 in
theorem impl_PrimesOfNorm.calls (k:Nat) (a0:Int) (r1:List (S26)) (r2:Int) (w:World) (h:impl_PrimesOfNorm.f k a0=some (r1,r2)):
    Calls Try.prog 19 #[.int .i64 a0] w fun e w'=>∃v0_:Value,e=.returned (.tuple #[v0_,.int .i64 r2])∧Kd.S k26 26 w' w.heap.size (fun _=>True) v0_ r1∧Below w.heap.size w w':=by
  have hu54:=Try.underlying54;have hu26:=Try.underlying26;have HB:=qAm (Below.refl w.heap.size w);have H:((impl_within.f a0 1 1000000).bind fun t185=>(if t185=true then ((impl_factorsOf.f k a0).bind fun t189=>(impl_PrimesOfNorm.l0 k a0 (([]:List (S26))) t189 (t189.length:Int) 0)) else (some (([]:List (S26)),2))))=some (r1,r2):=h;clear h;replace H:=qOb H;obtain⟨t185,A20,H⟩:=H;replace H:(if t185=true then ((impl_factorsOf.f k a0).bind fun t189=>(impl_PrimesOfNorm.l0 k a0 (([]:List (S26))) t189 (t189.length:Int) 0)) else (some (([]:List (S26)),2)))=some (r1,r2):=H;have A2:=qAm A20;clear A20
  by_cases c3:t185=true
  · subst c3
    have H1:((impl_factorsOf.f k a0).bind fun t189=>(impl_PrimesOfNorm.l0 k a0 (([]:List (S26))) t189 (t189.length:Int) 0))=some (r1,r2):=by rw [if_pos rfl] at H;exact H
    clear H;have H:=H1;clear H1;obtain⟨y186,hy186⟩:∃y_:List (S26),y_=(([]:List (S26))):=⟨_,rfl⟩
    replace H:((impl_factorsOf.f k a0).bind fun t189=>(impl_PrimesOfNorm.l0 k a0 y186 t189 (t189.length:Int) 0))=some (r1,r2):=by first|(rw [hy186];with_reducible exact H)|(have H2_:=(Option.bind_some _ _).symm.trans H;rw [hy186];with_reducible exact H2_)|(have H2_:=(Option.bind_some _ _).symm.trans H;with_reducible exact H2_)|with_reducible exact H|(rw [hy186];exact H)|exact H
    have Ny186:=qAm hy186;clear hy186;replace H:=qOb H;obtain⟨t189,A40,H⟩:=H;replace H:(impl_PrimesOfNorm.l0 k a0 y186 t189 (t189.length:Int) 0)=some (r1,r2):=H;have A4:=qAm A40;clear A40;have H':=qAm H;clear H;go_enter Try.func19,Try.ntmps19;go_wp2_with (first|((with_reducible refine gate_callee (f:=48) rfl ?_);refine goesL_ (some 12) rfl rfl Try.func48 (by kernel_rfl) rfl #[.int .i64 a0,.int .i64 1,.int .i64 1000000] rfl qB15 ?_;(with_reducible refine(impl_within.calls a0 1 1000000 true _ A2.1).mono ?_);rintro e w' ⟨rfl,⟨nd,rfl⟩⟩;refine⟨_,rfl,?_⟩)|((with_reducible refine gate_dst (N:=14) rfl ?_);refine Kd.S_lit k26 _ 26 ?hg (N:=14) ?hd (xs:=([]:List (S26))) (inner:=[]) (ok:=fun _=>True) (okp:=fun _=>True) ?hr ?hp (fun _ hk=>hk) trivial (Below.refl _ _) (Nat.le_refl _) (by simp) ?_;(case hd=>rfl);(case hg=>rfl);(case hr=>first|(go_simp;done)|(go_simp;rfl));(case hp=>exact(Reps.none _ _));intro v187 w5 ho6 hb hg_ hnew_;clear hg_ hnew_;(first|rw [← Ny186.1] at ho6|(simp only [Int.reduceToNat] at ho6;rw [← Ny186.1] at ho6));have n0_:=qAm (Kd.S_lower ho6 (below_size qB16));have n1_:=qAm (below_step qB16 hb);clear HB;have HO188:=n0_;have HB:=n1_;clear n0_ n1_;clear hb ho6)|((with_reducible refine gate_callee (f:=49) rfl ?_);refine goesL_ (some 16) rfl rfl Try.func49 (by kernel_rfl) rfl #[.int .i64 a0] rfl qB15 ?_;(with_reducible refine(impl_factorsOf.calls k a0 t189 _ A4.1).mono ?_);rintro e w7 ⟨v190,rfl,ho0,hb⟩;refine⟨_,rfl,?_⟩;have n0_:=qAm (Kd.S_elder' (by (with_reducible repeat(first|apply Kd.S_alloc|apply Kd.S_drewN|apply Kd.S_drew));exact HO188.1) (Kd.R_base ho0) hb);have n1_:=qAm (Kd.R_lower ho0 (below_size qB16));have n2_:=qAm (below_step qB16 hb);clear HO188;clear HB;have HO188:=n0_;have HO191:=n1_;have HB:=n2_;clear n0_ n1_ n2_;(try clear hb);(try clear hb2);(try clear hk);(try clear hi);(try clear ho0);obtain⟨Ao8,co8,eo8⟩:=Kd.R_slice HO191.1;subst eo8));try simp only [Act.put,qSa,qSc,qSb]
    go_loopg [4,18] k (fun kq v4 v18 w'=>∃(x4_1:List (S26)) (x18_1:Int),v18=.int .i64 x18_1∧Aside0 (impl_PrimesOfNorm.l0 kq a0 x4_1 t189 (t189.length:Int) x18_1=some (r1,r2))∧Aside0 (kq≤k)∧Aside0 (Kd.S k26 26 w' w.heap.size (fun k_=>some k_≠((.slice Ao8 t189.length co8):Value).ownBlock) v4 x4_1)∧Aside0 (Kd.R (Kd.int .i64) 2 w' w.heap.size (fun _=>True) (.slice Ao8 t189.length co8) t189)∧Aside0 (Below w.heap.size w w'))
    case atStart=>exact⟨(y186),(0),qB37,H',⟨Nat.le_refl _⟩,⟨by (with_reducible repeat(first|apply Kd.S_alloc|apply Kd.S_drewN|apply Kd.S_drew));exact Kd.S_mono HO188.1 (fun _ hk=>hk.2)⟩,⟨by (with_reducible repeat(first|apply Kd.R_alloc|apply Kd.R_drewN|apply Kd.R_drew));exact HO191.1⟩,⟨by repeat(first|(with_reducible first|exact HB.1|apply below_alloc|apply pw_below_drewN|apply below_drew1)|exact HB.1)⟩⟩
    case round=>
      clear H';try clear c1
      try clear p2
      try clear c3
      try clear c4
      obtain⟨x4_1,x18_1,rfl,HA,HK1,HO_4,HO_16,HB⟩:=hrel;cases gk with
      |zero=>exact absurd HA.1 (by simp [impl_PrimesOfNorm.l0])
      |succ k1=>
        have H:=HA.1;clear HA;simp only [impl_PrimesOfNorm.l0] at H
        by_cases c9:x18_1<(t189.length:Int)
        · rw [if_pos c9] at H
          have c9b0:decide (x18_1<(t189.length:Int))=true:=decide_eq_true c9;clear c9
          by_cases c10:0≤x18_1
          · rw [if_pos c10] at H
            have c10b0:decide (0≤x18_1)=true:=decide_eq_true c10;clear c10
            by_cases c11:x18_1<(t189.length:Int)
            · rw [if_pos c11] at H
              have c11b0:decide (x18_1<(t189.length:Int))=true:=decide_eq_true c11;clear c11;replace H:=qOb H;obtain⟨t193,A120,H⟩:=H;replace H:(impl_PrimesOfNorm.l1 k1 a0 x4_1 t189 (t189.length:Int) x18_1 t193 (t193.length:Int) 0)=some (r1,r2):=H;have A12:=qAm A120;clear A120;have H':=qAm H;clear H;have p192:0≤(x18_1:Int):=of_decide_eq_true qB36;have q192:x18_1<(t189.length:Int):=of_decide_eq_true qB36;obtain⟨ad192,e192,hx192_0⟩:=Kd.at_int (Kd.R_reads' HO_16.1).2.2 x18_1 p192 q192;cases e192
              replace p192:=eq_true p192;replace q192:=eq_true q192;go_wp2_with (first|((with_reducible refine gate_callee (f:=50) rfl ?_);refine goesL_ (some 23) rfl rfl Try.func50 (by kernel_rfl) rfl #[.int .i64 (rd t189 x18_1)] rfl qB15 ?_;(with_reducible refine(impl_primesOver.calls k1 (rd t189 x18_1) t193 _ A12.1).mono ?_);rintro e w13 ⟨v194,rfl,ho0,hb⟩;refine⟨_,rfl,?_⟩;have n0_:=qAm (Kd.S_below qB34 hb);have n1_:=qAm (Kd.R_below qB26 hb);have n2_:=qAm (Kd.R_lower ho0 (below_size qB16));have n3_:=qAm (below_step qB16 hb);clear HO_4;clear HO_16;clear HB;have HO_4:=n0_;have HO_16:=n1_;have HO195:=n2_;have HB:=n3_;clear n0_ n1_ n2_ n3_;(try clear hb);(try clear hb2);(try clear hk);(try clear hi);(try clear ho0);obtain⟨Ao14,co14,eo14⟩:=Kd.R_slice HO195.1;subst eo14));try simp only [Act.put,qSa,qSc,qSb]
              go_loopg [4,25] k1 (fun kq v4 v25 w'=>∃(x4_2:List (S26)) (x25_2:Int),v25=.int .i64 x25_2∧Aside0 (impl_PrimesOfNorm.l1 kq a0 x4_2 t189 (t189.length:Int) x18_1 t193 (t193.length:Int) x25_2=some (r1,r2))∧Aside0 (kq≤k1)∧Aside0 (Kd.S k26 26 w' w.heap.size (fun k_=>some k_≠((.slice (some ad192) t189.length co8):Value).ownBlock) v4 x4_2)∧Aside0 (Kd.R (Kd.int .i64) 2 w' w.heap.size (fun _=>True) (.slice (some ad192) t189.length co8) t189)∧Aside0 (Kd.R k54 54 w' w.heap.size (fun _=>True) (.slice Ao14 t193.length co14) t193)∧Aside0 (Below w.heap.size w w'))
              case atStart=>exact⟨(x4_1),(0),qB37,H',⟨Nat.le_refl _⟩,⟨by (with_reducible repeat(first|apply Kd.S_alloc|apply Kd.S_drewN|apply Kd.S_drew));exact HO_4.1⟩,⟨by (with_reducible repeat(first|apply Kd.R_alloc|apply Kd.R_drewN|apply Kd.R_drew));exact HO_16.1⟩,⟨by (with_reducible repeat(first|apply Kd.R_alloc|apply Kd.R_drewN|apply Kd.R_drew));exact HO195.1⟩,⟨by repeat(first|(with_reducible first|exact HB.1|apply below_alloc|apply pw_below_drewN|apply below_drew1)|exact HB.1)⟩⟩
              case round=>
                clear H';try clear c1
                try clear p1
                try clear q1
                try clear hx1
                try clear p2
                try clear c3
                try clear c4
                try clear c5
                try clear c9
                try clear c9b0
                try clear c10
                try clear c10b0
                try clear c11
                try clear c11b0
                try clear hx192_0
                try clear p192
                try clear p2
                try clear q192
                obtain⟨x4_2,x25_2,rfl,HA,HK2,HO_4,HO_16,HO_23,HB⟩:=hrel;cases gk with
                |zero=>exact absurd HA.1 (by simp [impl_PrimesOfNorm.l1])
                |succ k2=>
                  have H:=HA.1;clear HA;simp only [impl_PrimesOfNorm.l1] at H
                  by_cases c15:x25_2<(t193.length:Int)
                  · rw [if_pos c15] at H
                    have c15b0:decide (x25_2<(t193.length:Int))=true:=decide_eq_true c15;clear c15
                    by_cases c16:0≤x25_2
                    · rw [if_pos c16] at H
                      have c16b0:decide (0≤x25_2)=true:=decide_eq_true c16;clear c16
                      by_cases c17:x25_2<(t193.length:Int)
                      · rw [if_pos c17] at H
                        have c17b0:decide (x25_2<(t193.length:Int))=true:=decide_eq_true c17;clear c17;replace H:=qOb H;obtain⟨t198,A180,H⟩:=H;replace H:(if t198=a0 then ((impl_cubic_told.f ((rd_T54 t193 x25_2).f0) ((rd_T54 t193 x25_2).f1)).bind fun bt199=>(if x4_2.length<4398046511104 then (impl_PrimesOfNorm.l1 k2 a0 (x4_2 ++ [(⟨bt199.1,bt199.2.1⟩:S26)]) t189 (t189.length:Int) x18_1 t193 (t193.length:Int) (wrap64 (x25_2+1))) else (none))) else (impl_PrimesOfNorm.l1 k2 a0 x4_2 t189 (t189.length:Int) x18_1 t193 (t193.length:Int) (wrap64 (x25_2+1))))=some (r1,r2):=H;have A18:=qAm A180;clear A180
                        by_cases c19:t198=a0
                        · rw [if_pos c19] at H
                          have c19b0:(t198==a0)=true:=beq_iff_eq.mpr c19;have c19b1:(t198 !=a0)=false:=bne_eq_false_iff_eq.mpr c19;clear c19;replace H:=qOb H;obtain⟨⟨t199,t200,t203⟩,A200,H⟩:=H;replace H:(if x4_2.length<4398046511104 then (impl_PrimesOfNorm.l1 k2 a0 (x4_2 ++ [(⟨t199,t200⟩:S26)]) t189 (t189.length:Int) x18_1 t193 (t193.length:Int) (wrap64 (x25_2+1))) else (none))=some (r1,r2):=H;have A20:=qAm A200;clear A200
                          by_cases c21:x4_2.length<4398046511104
                          · rw [if_pos c21] at H
                            have LMc21:=qAm c21;clear c21;obtain⟨y205,hy205⟩:∃y_:List (S26),y_=(x4_2 ++ [(⟨t199,t200⟩:S26)]):=⟨_,rfl⟩
                            replace H:(impl_PrimesOfNorm.l1 k2 a0 y205 t189 (t189.length:Int) x18_1 t193 (t193.length:Int) (wrap64 (x25_2+1)))=some (r1,r2):=by first|(rw [hy205];with_reducible exact H)|(have H2_:=(Option.bind_some _ _).symm.trans H;rw [hy205];with_reducible exact H2_)|(have H2_:=(Option.bind_some _ _).symm.trans H;with_reducible exact H2_)|with_reducible exact H|(rw [hy205];exact H)|exact H
                            have Ny205:=qAm hy205;clear hy205;have H':=qAm H;clear H;have p196:0≤(x25_2:Int):=of_decide_eq_true qB36;have q196:x25_2<(t193.length:Int):=of_decide_eq_true qB36;obtain⟨ad196,e196,hx196_0,hx196_1⟩:=at_T54 (Kd.R_reads' HO_23.1).2.2 x25_2 p196 q196;cases e196
                            replace p196:=eq_true p196;replace q196:=eq_true q196;go_wp2_with (first|((with_reducible refine gate_dst (N:=8) rfl ?_);refine box_event ?hg (N:=8) ?hd (cs:=#[.int .i64 0,.int .i64 0]) (t:=54) ?hr ?_;(case hd=>rfl);(case hg=>rfl);(case hr=>first|(go_simp;done)|(go_simp;rfl));intro gb197 hg w22 hbox hb;have n0_:=qAm (Kd.S_below qB34 hb);have n1_:=qAm (Kd.R_below qB26 hb);have n2_:=qAm (Kd.R_below (Kd.R_elderB qB27 gb197 (Nat.le_of_eq hg.symm)) hb);have n3_:=qAm (below_step qB16 hb);have n4_:=qAm (hbox);have n5_:=qAm ((by rw [hg];exact(below_size qB16):w.heap.size≤gb197));have n6_:=qAm ((by rw [hg];exact(below_size qB16):w.heap.size≤gb197));clear HO_4;clear HO_16;clear HO_23;clear HB;have HO_4:=n0_;have HO_16:=n1_;have HO_23:=n2_;have HB:=n3_;have BK197:=n4_;have GW197:=n5_;have GE197:=n6_;clear n0_ n1_ n2_ n3_ n4_ n5_ n6_;clear hb hbox hg;have hcz23_0:w22.cell? ⟨gb197,0,none⟩=some (.int .i64 0):=(blk_cell BK197.1 0).trans rfl;have hcz23_1:w22.cell? ⟨gb197,1,none⟩=some (.int .i64 0):=(blk_cell BK197.1 1).trans rfl;have hfz23_0:=blk_frozen BK197.1 0;have hfz23_1:=blk_frozen BK197.1 1)|((with_reducible refine gate_callee (f:=42) rfl ?_);refine goesL_ (some 30) rfl rfl Try.func42 (by kernel_rfl) rfl #[.agg #[.int .i64 ((rd_T54 t193 x25_2).f0),.int .i64 ((rd_T54 t193 x25_2).f1)]] rfl qB15 ?_;(with_reducible refine(impl_cubic_norm.calls ((rd_T54 t193 x25_2).f0) ((rd_T54 t193 x25_2).f1) t198 _ A18.1).mono ?_);rintro e w24 ⟨rfl,hb⟩;refine⟨_,rfl,?_⟩;have n0_:=qAm (Kd.S_below qB4 hb);have n1_:=qAm (Kd.R_below qB3 hb);have n2_:=qAm (Kd.R_below qB2 hb);have n3_:=qAm (blk_below (g:=gb197) (o:=.cells #[.int .i64 ((rd_T54 t193 x25_2).f0),.int .i64 ((rd_T54 t193 x25_2).f1)] 54 (0,0)) qB1 hb);have n4_:=qAm (below_step qB11 hb);clear HO_4;clear HO_16;clear HO_23;clear BK197;clear HB;have HO_4:=n0_;have HO_16:=n1_;have HO_23:=n2_;have BK197:=n3_;have HB:=n4_;clear n0_ n1_ n2_ n3_ n4_;(try clear hb);(try clear hb2);(try clear hk);(try clear hi);have hcz25_0:w24.cell? ⟨gb197,0,none⟩=some (.int .i64 ((rd_T54 t193 x25_2).f0)):=(blk_cell BK197.1 0).trans rfl;have hcz25_1:w24.cell? ⟨gb197,1,none⟩=some (.int .i64 ((rd_T54 t193 x25_2).f1)):=(blk_cell BK197.1 1).trans rfl;have hfz25_0:=blk_frozen BK197.1 0;have hfz25_1:=blk_frozen BK197.1 1)|((with_reducible refine gate_callee (f:=31) rfl ?_);refine goesL_ (some 35) rfl rfl Try.func31 (by kernel_rfl) rfl #[.agg #[.int .i64 ((rd_T54 t193 x25_2).f0),.int .i64 ((rd_T54 t193 x25_2).f1)]] rfl qB15 ?_;(with_reducible refine(impl_cubic_told.calls ((rd_T54 t193 x25_2).f0) ((rd_T54 t193 x25_2).f1) t199 t200 t203 _ A20.1).mono ?_);rintro e w26 ⟨v201,rfl,ho0,hb⟩;refine⟨_,rfl,?_⟩;have n0_:=qAm (Kd.S_elder' qB34 (Kd.R_base ho0) hb);have n1_:=qAm (Kd.R_elder' qB26 (Kd.R_base ho0) hb);have n2_:=qAm (Kd.R_below qB27 hb);have n3_:=qAm (Kd.R_lower (Kd.R_new' ho0 (Kd.R_lt qB26)) (below_size qB11));have n4_:=qAm (blk_below (g:=gb197) (o:=.cells #[.int .i64 ((rd_T54 t193 x25_2).f0),.int .i64 ((rd_T54 t193 x25_2).f1)] 54 (0,0)) qB20 hb);have n5_:=qAm (below_step qB11 hb);clear HO_4;clear HO_16;clear HO_23;clear BK197;clear HB;have HO_4:=n0_;have HO_16:=n1_;have HO_23:=n2_;have HO202:=n3_;have BK197:=n4_;have HB:=n5_;clear n0_ n1_ n2_ n3_ n4_ n5_;(try clear hb);(try clear hb2);(try clear hk);(try clear hi);(try clear ho0))|((with_reducible refine gate_dst (N:=9) rfl ?_);refine box_event ?hg (N:=9) ?hd (cs:=#[.int .i64 0,.slice none 0 0]) (t:=26) ?hr ?_;(case hd=>rfl);(case hg=>rfl);(case hr=>first|(go_simp;done)|(go_simp;rfl));intro gb204 hg w27 hbox hb;have n0_:=qAm (Kd.S_below (Kd.S_elderB qB34 gb204 (Nat.le_of_eq hg.symm)) hb);have n1_:=qAm (Kd.R_below qB26 hb);have n2_:=qAm (Kd.R_below qB27 hb);have n3_:=qAm (Kd.R_below (by (with_reducible repeat(first|apply Kd.R_alloc|apply Kd.R_drewN|apply Kd.R_drew));exact HO202.1) hb);have n4_:=qAm (blk_below (g:=gb197) (o:=.cells #[.int .i64 ((rd_T54 t193 x25_2).f0),.int .i64 ((rd_T54 t193 x25_2).f1)] 54 (0,0)) qB20 hb);have n5_:=qAm (below_step qB11 hb);have n6_:=qAm (hbox);have n7_:=qAm ((by rw [hg];exact(below_size qB11):w.heap.size≤gb204));have n8_:=qAm ((by rw [hg];exact(below_size qB11):w.heap.size≤gb204));have n9_:=qAm ((by rw [hg];exact Nat.ne_of_lt (blk_lt (g:=gb197) (o:=.cells #[.int .i64 ((rd_T54 t193 x25_2).f0),.int .i64 ((rd_T54 t193 x25_2).f1)] 54 (0,0)) qB20):gb197≠gb204));have n10_:=qAm ((by rw [hg];exact Nat.ne_of_gt (blk_lt (g:=gb197) (o:=.cells #[.int .i64 ((rd_T54 t193 x25_2).f0),.int .i64 ((rd_T54 t193 x25_2).f1)] 54 (0,0)) qB20):gb204≠gb197));clear HO_4;clear HO_16;clear HO_23;clear HO202;clear BK197;clear HB;have HO_4:=n0_;have HO_16:=n1_;have HO_23:=n2_;have HO202:=n3_;have BK197:=n4_;have HB:=n5_;have BK204:=n6_;have GW204:=n7_;have GE204:=n8_;have NB197_204:=n9_;have NB204_197:=n10_;clear n0_ n1_ n2_ n3_ n4_ n5_ n6_ n7_ n8_ n9_ n10_;clear hb hbox hg;have hnb28:=NB204_197.1;have hnc28:=NB197_204.1;have hcz29_0:w27.cell? ⟨gb204,0,none⟩=some (.int .i64 0):=(blk_cell BK204.1 0).trans rfl;have hcz29_1:w27.cell? ⟨gb204,1,none⟩=some (.slice none 0 0):=(blk_cell BK204.1 1).trans rfl;have hfz29_0:=blk_frozen BK204.1 0;have hfz29_1:=blk_frozen BK204.1 1;obtain⟨Ao30,co30,eo30⟩:=Kd.R_slice HO202.1;subst eo30)|((with_reducible refine gate_store (t:=26) (p:=9) rfl ?_);refine store_event (t:=26) (p:=9) (v:=?vo_w31) (w1:=((w27.setCell ⟨gb204,0,none⟩ (.int .i64 t199)).setCell ⟨gb204,1,none⟩ (.slice Ao30 t200.length co30))) ?hg ?ho ?hn ?hr ?_;(case ho=>rfl);(case hg=>rfl);(case hn=>rfl);(case hr=>first|(go_simp;done)|(go_simp;rfl));intro w31 hw;have n0_:Aside0 (Kd.S k26 26 w31 w.heap.size (fun k_=>some k_≠(.slice (some ad192) t189.length co8:Value).ownBlock∧some k_≠(.slice Ao30 t200.length co30:Value).ownBlock∧k_≠gb204) u4 x4_2):=⟨(by rw [hw];exact(by (with_reducible repeat(first|apply Kd.S_alloc|apply Kd.S_drewN|apply Kd.S_drew));exact Kd.S_mono (Kd.S_far (p:=⟨gb204,1,none⟩) (Kd.S_far (p:=⟨gb204,0,none⟩) (Kd.S_mono HO_4.1 (fun k_ hk=>(⟨hk,hk.2⟩:_∧k_≠gb204))) (fun _ hk=>hk.2) (.int .i64 t199)) (fun _ hk=>hk.2) (.slice Ao30 t200.length co30)) (fun _ hk=>⟨hk.1.1.1,⟨hk.1.1.2,hk.1.2⟩⟩)))⟩;have n1_:Aside0 (Kd.R (Kd.int .i64) 2 w31 w.heap.size (fun k_=>some k_≠(.slice Ao30 t200.length co30:Value).ownBlock) (.slice (some ad192) t189.length co8) t189):=⟨(by rw [hw];exact(by (with_reducible repeat(first|apply Kd.R_alloc|apply Kd.R_drewN|apply Kd.R_drew));exact Kd.R_mono (Kd.R_far (p:=⟨gb204,1,none⟩) (Kd.R_far (p:=⟨gb204,0,none⟩) (Kd.R_types HO_16.1 BK204.1 (by decide)) (fun _ hk=>hk.2) (.int .i64 t199)) (fun _ hk=>hk.2) (.slice Ao30 t200.length co30)) (fun _ hk=>hk.1.2)))⟩;have n2_:Aside0 (Kd.R k54 54 w31 w.heap.size (fun k_=>k_≠gb197) (.slice (some ad196) t193.length co14) t193):=⟨(by rw [hw];exact(by (with_reducible repeat(first|apply Kd.R_alloc|apply Kd.R_drewN|apply Kd.R_drew));exact Kd.R_mono (Kd.R_far (p:=⟨gb204,1,none⟩) (Kd.R_far (p:=⟨gb204,0,none⟩) (Kd.R_types HO_23.1 BK204.1 (by decide)) (fun _ hk=>hk.2) (.int .i64 t199)) (fun _ hk=>hk.2) (.slice Ao30 t200.length co30)) (fun _ hk=>hk.1.2)))⟩;have n3_:Aside0 (Kd.R (Kd.int .i64) 2 w31 w.heap.size (fun k_=>some k_≠(.slice (some ad192) t189.length co8:Value).ownBlock) (.slice Ao30 t200.length co30) t200):=⟨(by rw [hw];exact(by (with_reducible repeat(first|apply Kd.R_alloc|apply Kd.R_drewN|apply Kd.R_drew));exact Kd.R_mono (Kd.R_far (p:=⟨gb204,1,none⟩) (Kd.R_far (p:=⟨gb204,0,none⟩) (Kd.R_types HO202.1 BK204.1 (by decide)) (fun _ hk=>hk.2) (.int .i64 t199)) (fun _ hk=>hk.2) (.slice Ao30 t200.length co30)) (fun _ hk=>hk.1.2)))⟩;have n4_:Aside0 (w31.heap[gb197]? =some (.cells #[.int .i64 ((rd_T54 t193 x25_2).f0),.int .i64 ((rd_T54 t193 x25_2).f1)] 54 (0,0))):=⟨(by rw [hw];exact(by (with_reducible repeat(first|refine blk_drewN ?_ _|refine blk_drew ?_|refine blk_alloc ?_ _));refine blk_far ?_ NB197_204.1 _;(with_reducible repeat(first|refine blk_drewN ?_ _|refine blk_drew ?_|refine blk_alloc ?_ _));refine blk_far ?_ NB197_204.1 _;(with_reducible repeat(first|refine blk_drewN ?_ _|refine blk_drew ?_|refine blk_alloc ?_ _));exact BK197.1))⟩;have n5_:Aside0 (w31.heap[gb204]? =some (.cells #[.int .i64 t199,.slice Ao30 t200.length co30] 26 (0,0))):=⟨(by rw [hw];exact(by (with_reducible repeat(first|refine blk_drewN ?_ _|refine blk_drew ?_|refine blk_alloc ?_ _));refine blk_put (cs:=#[.int .i64 t199,.slice none 0 0]) ?_ 1 _ rfl;(with_reducible repeat(first|refine blk_drewN ?_ _|refine blk_drew ?_|refine blk_alloc ?_ _));refine blk_put (cs:=#[.int .i64 0,.slice none 0 0]) ?_ 0 _ rfl;(with_reducible repeat(first|refine blk_drewN ?_ _|refine blk_drew ?_|refine blk_alloc ?_ _));exact BK204.1))⟩;have n6_:Aside0 (Below w.heap.size w w31):=⟨(by rw [hw];exact qB6)⟩;clear hw;clear HO_4;clear HO_16;clear HO_23;clear HO202;clear BK197;clear BK204;clear HB;have HO_4:=n0_;have HO_16:=n1_;have HO_23:=n2_;have HO202:=n3_;have BK197:=n4_;have BK204:=n5_;have HB:=n6_;clear n0_ n1_ n2_ n3_ n4_ n5_ n6_;have hcz32_0:w31.cell? ⟨gb204,0,none⟩=some (.int .i64 t199):=(blk_cell BK204.1 0).trans rfl;have hcz32_1:w31.cell? ⟨gb204,1,none⟩=some (.slice Ao30 t200.length co30):=(blk_cell BK204.1 1).trans rfl;have hfz32_0:=blk_frozen BK204.1 0;have hfz32_1:=blk_frozen BK204.1 1)|((with_reducible refine gate_builtin (b:=.append) (xs:=#[.tmp 38,.tmp 40]) rfl ?_);at_builtin;refine Kd.S_append k26 (w0:=w) w.heap.size rfl (.tmp 38) (.tmp 40) 37 26 (.agg #[(.int .i64 0),(.slice none 0 0)]) 32 rfl Try.underlying37 info26 rfl (by decide) (by omega) u4 x4_2 (⟨t199,t200⟩:S26) [.int .i64 t199,.slice Ao30 t200.length co30] (fun k_=>some k_≠(.slice (some ad192) t189.length co8:Value).ownBlock∧k_≠gb204) (fun k_=>some k_=(.slice Ao30 t200.length co30:Value).ownBlock) rfl rfl ?aP (fun k_ hk_=>((Kd.R_mono (ok':=fun k_=>((fun k_=>some k_≠(.slice (some ad192) t189.length co8:Value).ownBlock∧k_≠gb204)) k_∧some k_≠(u4:Value).ownBlock) (Kd.R_types (Kd.R_apart' (HO202.1) (Kd.S_typed HO_4.1) (by decide)) BK204.1 (by decide)) (fun k_ hk=>⟨⟨hk.1.1,hk.2⟩,hk.1.2⟩))).1 k_ hk_.symm) ?aF ?aO ?aB ?aS ?aL ?_;(case aP=>exact k26_mkM _ _ _ (⟨t199,t200⟩:S26) (Kd.R_mono (Kd.R_tight rfl (Kd.R_mono (ok':=fun k_=>((fun k_=>some k_≠(.slice (some ad192) t189.length co8:Value).ownBlock∧k_≠gb204)) k_∧some k_≠(u4:Value).ownBlock) (Kd.R_types (Kd.R_apart' (HO202.1) (Kd.S_typed HO_4.1) (by decide)) BK204.1 (by decide)) (fun k_ hk=>⟨⟨hk.1.1,hk.2⟩,hk.1.2⟩))) (fun _ h_=>h_)));(case aB=>exact qB6);(case aF=>exact(fun k_ hk=>⟨Kd.fresh' (Kd.R_lt qB26) k_ hk,Kd.freshB (g:=gb204) (o:=.cells #[.int .i64 t199,.slice Ao30 t200.length co30] 26 (0,0)) qB21 k_ hk⟩));(case aO=>exact(by (with_reducible repeat(first|apply Kd.S_alloc|apply Kd.S_drewN|apply Kd.S_drew));exact Kd.S_mono HO_4.1 (fun k_ hk=>⟨⟨hk.1,hk.2.2⟩,fun e_=>hk.2.1 e_⟩)));(case aS=>exact(below_size qB6));(case aL=>have:=LMc21.1;omega);intro v206 w33 ho hb hg hat;rw [← Ny205.1] at ho;have n0_:=qAm (Kd.R_over' qB26 (Kd.S_typed qB34) (by decide) hg);have n1_:=qAm (Kd.R_over' qB27 (Kd.S_typed qB34) (by decide) hg);have n2_:=qAm (blk_grown (g:=gb197) (o:=.cells #[.int .i64 ((rd_T54 t193 x25_2).f0),.int .i64 ((rd_T54 t193 x25_2).f1)] 54 (0,0)) qB20 hg (Kd.S_ne HO_4.1 BK197.1 (by decide)));have n3_:=qAm (blk_grown (g:=gb204) (o:=.cells #[.int .i64 t199,.slice Ao30 t200.length co30] 26 (0,0)) qB21 hg (Kd.S_away HO_4.1 (fun _ hk=>hk.2.2)));have n4_:=qAm (hb);have n5_:=qAm (ho);clear HO_16;clear HO_23;clear BK197;clear BK204;clear HB;clear HO_4;clear HO202;have HO_16:=n0_;have HO_23:=n1_;have BK197:=n2_;have BK204:=n3_;have HB:=n4_;have HO207:=n5_;clear n0_ n1_ n2_ n3_ n4_ n5_;clear ho hb hg hat))
                            (first|go_roundg k2|((try simp only [add_plain] at *);go_roundg k2))
                            case measure=>have:=HK1.1;have:=HK2.1;omega
                            case rel=>exact⟨(y205),(wrap64 (x25_2+1)),qB37,H',⟨by have:=HK1.1;have:=HK2.1;omega⟩,⟨by (with_reducible repeat(first|apply Kd.S_alloc|apply Kd.S_drewN|apply Kd.S_drew));exact Kd.S_mono HO207.1 (fun _ hk=>hk.1)⟩,⟨by (with_reducible repeat(first|apply Kd.R_alloc|apply Kd.R_drewN|apply Kd.R_drew));exact Kd.R_mono HO_16.1 (fun _ hk=>trivial)⟩,⟨by (with_reducible repeat(first|apply Kd.R_alloc|apply Kd.R_drewN|apply Kd.R_drew));exact Kd.R_mono HO_23.1 (fun _ hk=>trivial)⟩,⟨by repeat(first|(with_reducible first|exact HB.1|apply below_alloc|apply pw_below_drewN|apply below_drew1|refine below_set ?_ GE197.1|refine below_set ?_ GE204.1)|exact HB.1)⟩⟩
                          · rw [if_neg c21] at H
                            exact absurd H (by simp)
                        · rw [if_neg c19] at H
                          have c19b0:(t198==a0)=false:=beq_eq_false_iff_ne.mpr c19;have c19b1:(t198 !=a0)=true:=bne_iff_ne.mpr c19;have H':=qAm H;clear H;have p196:0≤(x25_2:Int):=of_decide_eq_true qB36;have q196:x25_2<(t193.length:Int):=of_decide_eq_true qB36;obtain⟨ad196,e196,hx196_0,hx196_1⟩:=at_T54 (Kd.R_reads' HO_23.1).2.2 x25_2 p196 q196;cases e196
                          replace p196:=eq_true p196;replace q196:=eq_true q196;go_wp2_with (first|((with_reducible refine gate_dst (N:=8) rfl ?_);refine box_event ?hg (N:=8) ?hd (cs:=#[.int .i64 0,.int .i64 0]) (t:=54) ?hr ?_;(case hd=>rfl);(case hg=>rfl);(case hr=>first|(go_simp;done)|(go_simp;rfl));intro gb197 hg w34 hbox hb;have n0_:=qAm (Kd.S_below qB34 hb);have n1_:=qAm (Kd.R_below qB26 hb);have n2_:=qAm (Kd.R_below (Kd.R_elderB qB27 gb197 (Nat.le_of_eq hg.symm)) hb);have n3_:=qAm (below_step qB16 hb);have n4_:=qAm (hbox);have n5_:=qAm ((by rw [hg];exact(below_size qB16):w.heap.size≤gb197));have n6_:=qAm ((by rw [hg];exact(below_size qB16):w.heap.size≤gb197));clear HO_4;clear HO_16;clear HO_23;clear HB;have HO_4:=n0_;have HO_16:=n1_;have HO_23:=n2_;have HB:=n3_;have BK197:=n4_;have GW197:=n5_;have GE197:=n6_;clear n0_ n1_ n2_ n3_ n4_ n5_ n6_;clear hb hbox hg;have hcz35_0:w34.cell? ⟨gb197,0,none⟩=some (.int .i64 0):=(blk_cell BK197.1 0).trans rfl;have hcz35_1:w34.cell? ⟨gb197,1,none⟩=some (.int .i64 0):=(blk_cell BK197.1 1).trans rfl;have hfz35_0:=blk_frozen BK197.1 0;have hfz35_1:=blk_frozen BK197.1 1)|((with_reducible refine gate_callee (f:=42) rfl ?_);refine goesL_ (some 30) rfl rfl Try.func42 (by kernel_rfl) rfl #[.agg #[.int .i64 ((rd_T54 t193 x25_2).f0),.int .i64 ((rd_T54 t193 x25_2).f1)]] rfl qB15 ?_;(with_reducible refine(impl_cubic_norm.calls ((rd_T54 t193 x25_2).f0) ((rd_T54 t193 x25_2).f1) t198 _ A18.1).mono ?_);rintro e w36 ⟨rfl,hb⟩;refine⟨_,rfl,?_⟩;have n0_:=qAm (Kd.S_below qB4 hb);have n1_:=qAm (Kd.R_below qB3 hb);have n2_:=qAm (Kd.R_below qB2 hb);have n3_:=qAm (blk_below (g:=gb197) (o:=.cells #[.int .i64 ((rd_T54 t193 x25_2).f0),.int .i64 ((rd_T54 t193 x25_2).f1)] 54 (0,0)) qB1 hb);have n4_:=qAm (below_step qB11 hb);clear HO_4;clear HO_16;clear HO_23;clear BK197;clear HB;have HO_4:=n0_;have HO_16:=n1_;have HO_23:=n2_;have BK197:=n3_;have HB:=n4_;clear n0_ n1_ n2_ n3_ n4_;(try clear hb);(try clear hb2);(try clear hk);(try clear hi)))
                          (first|go_roundg k2|((try simp only [add_plain] at *);go_roundg k2))
                          case measure=>have:=HK1.1;have:=HK2.1;omega
                          case rel=>exact⟨(x4_2),(wrap64 (x25_2+1)),qB37,H',⟨by have:=HK1.1;have:=HK2.1;omega⟩,⟨by (with_reducible repeat(first|apply Kd.S_alloc|apply Kd.S_drewN|apply Kd.S_drew));exact HO_4.1⟩,⟨by (with_reducible repeat(first|apply Kd.R_alloc|apply Kd.R_drewN|apply Kd.R_drew));exact HO_16.1⟩,⟨by (with_reducible repeat(first|apply Kd.R_alloc|apply Kd.R_drewN|apply Kd.R_drew));exact Kd.R_mono HO_23.1 (fun _ hk=>trivial)⟩,⟨by repeat(first|(with_reducible first|exact HB.1|apply below_alloc|apply pw_below_drewN|apply below_drew1|refine below_set ?_ GE197.1)|exact HB.1)⟩⟩
                      · rw [if_neg c17] at H
                        exact absurd H (by simp)
                    · rw [if_neg c16] at H
                      exact absurd H (by simp)
                  · rw [if_neg c15] at H
                    have c15b0:decide (x25_2<(t193.length:Int))=false:=decide_eq_false c15;clear c15;have H':=qAm H;clear H;go_wp2
                    (first|go_roundg k2|((try simp only [add_plain] at *);go_roundg k2))
                    case measure=>have:=HK1.1;have:=HK2.1;omega
                    case rel=>exact⟨(x4_2),(wrap64 (x18_1+1)),qB37,H',⟨by have:=HK1.1;have:=HK2.1;omega⟩,⟨by (with_reducible repeat(first|apply Kd.S_alloc|apply Kd.S_drewN|apply Kd.S_drew));exact HO_4.1⟩,⟨by (with_reducible repeat(first|apply Kd.R_alloc|apply Kd.R_drewN|apply Kd.R_drew));exact HO_16.1⟩,⟨by repeat(first|(with_reducible first|exact HB.1|apply below_alloc|apply pw_below_drewN|apply below_drew1)|exact HB.1)⟩⟩
            · rw [if_neg c11] at H
              exact absurd H (by simp)
          · rw [if_neg c10] at H
            exact absurd H (by simp)
        · rw [if_neg c9] at H
          have c9b0:decide (x18_1<(t189.length:Int))=false:=decide_eq_false c9;clear c9;simp only [Option.some.injEq,Prod.mk.injEq] at H;obtain⟨rfl,rfl⟩:=H;go_wp2;go_ret2;exact⟨_,by first|rfl|(simp [errW_none,errW_some] <;> rfl)|(simp [*,errW_none,errW_some] <;> rfl),by (with_reducible repeat(first|apply Kd.S_alloc|apply Kd.S_drewN|apply Kd.S_drew));exact Kd.S_mono HO_4.1 (fun _ hk=>trivial),by repeat(first|(with_reducible first|exact HB.1|apply below_alloc|apply pw_below_drewN|apply below_drew1)|exact HB.1)⟩
  · replace c3:=Bool.eq_false_iff.mpr c3
    subst c3;have H1:(some (([]:List (S26)),2))=some (r1,r2):=by rw [if_neg (show ¬(false=true) by decide)] at H;exact H
    clear H;have H:=H1;clear H1;simp only [Option.some.injEq,Prod.mk.injEq] at H;obtain⟨rfl,rfl⟩:=H;go_enter Try.func19,Try.ntmps19;go_wp2_with (first|((with_reducible refine gate_callee (f:=48) rfl ?_);refine goesL_ (some 12) rfl rfl Try.func48 (by kernel_rfl) rfl #[.int .i64 a0,.int .i64 1,.int .i64 1000000] rfl qB15 ?_;(with_reducible refine(impl_within.calls a0 1 1000000 false _ A2.1).mono ?_);rintro e w' ⟨rfl,⟨nd,rfl⟩⟩;refine⟨_,rfl,?_⟩));go_ret2;exact⟨_,by first|rfl|(simp [errW_none,errW_some] <;> rfl)|(simp [*,errW_none,errW_some] <;> rfl),by first|exact Kd.S_nil _ _ _ _ _|exact Kd.N_nil _ _ _ _ _|exact Kd.V_nil _ _ _ _ _|exact Kd.Q_nil _ _ _ _ _|exact Kd.R_nil _ _ _ _ _,by repeat(first|(with_reducible first|exact HB.1|apply below_alloc|apply pw_below_drewN|apply below_drew1)|exact HB.1)⟩

/-! ### laws_eqInt64S: function 32 -/
def laws_eqInt64S.l0:Nat→List Int→List Int→Int→Option (Bool)
  |0,_,_,_=>none
  |k+1,x0,x1,x5=>if x5<(x0.length:Int) then (if 0≤x5 then (if x5<(x1.length:Int) then (if (rd x0 x5)=(rd x1 x5) then (laws_eqInt64S.l0 k x0 x1 (wrap64 (x5+1))) else (some false)) else (none)) else (none)) else (some true)
def laws_eqInt64S.f (k:Nat) (l0:List Int) (l1:List Int):Option (Bool):=if (l0.length:Int)=(l1.length:Int) then (laws_eqInt64S.l0 k l0 l1 0) else (some false)
theorem laws_eqInt64S.mono_l:∀k,(∀y0 y1 y2,LeO (laws_eqInt64S.l0 k y0 y1 y2) (laws_eqInt64S.l0 (k+1) y0 y1 y2))
  |0=>fun _ _ _ r h=>by simp [laws_eqInt64S.l0] at h
  |k+1=>by
    have ih0:=laws_eqInt64S.mono_l k
    · intro y0 y1 y2
      unfold laws_eqInt64S.l0;repeat' first
      |(with_reducible exact ih0 _ _ _)
      |(with_reducible exact LeO.refl _)
      |(with_reducible exact LeO.none _)
      |(with_reducible refine LeO.ite ?_ ?_)
      |(with_reducible refine LeO.bind ?_ (fun _=>?_))
      |exact ih0 _ _ _
      |exact LeO.none _
      |refine LeO.ite ?_ ?_
      |refine LeO.bind ?_ (fun _=>?_)
theorem laws_eqInt64S.mono:∀a0 a1 k,LeO (laws_eqInt64S.f k a0 a1) (laws_eqInt64S.f (k+1) a0 a1):=by
  intro a0 a1 k;have ih0:=laws_eqInt64S.mono_l k;unfold laws_eqInt64S.f;repeat' first
      |(with_reducible exact ih0 _ _ _)
      |(with_reducible exact LeO.refl _)
      |(with_reducible exact LeO.none _)
      |(with_reducible refine LeO.ite ?_ ?_)
      |(with_reducible refine LeO.bind ?_ (fun _=>?_))
      |exact ih0 _ _ _
      |exact LeO.none _
      |refine LeO.ite ?_ ?_
      |refine LeO.bind ?_ (fun _=>?_)
set_option maxHeartbeats 8000000 in
set_option maxRecDepth 100000 in
theorem laws_eqInt64S.calls (k:Nat) (A0:Option Addr) (c0:Nat) (l0:List Int) (A1:Option Addr) (c1:Nat) (l1:List Int) (r:Bool) (w:World) (hr0:Kd.C (Kd.int .i64) w A0 l0.length l0) (hc0:l0.length≤c0) (hr1:Kd.C (Kd.int .i64) w A1 l1.length l1) (hc1:l1.length≤c1) (h:laws_eqInt64S.f k l0 l1=some r):
    Calls Try.prog 32 #[.slice A0 l0.length c0,.slice A1 l1.length c1] w fun e w'=>e=.returned (.bool r)∧Drawn0 w w':=by
  have HR0:=qAm hr0;have HC0:=qAm hc0;clear hr0 hc0;have HR1:=qAm hr1;have HC1:=qAm hc1;clear hr1 hc1;have H:(if (l0.length:Int)=(l1.length:Int) then (laws_eqInt64S.l0 k l0 l1 0) else (some false))=some r:=h;clear h
  by_cases c3:(l0.length:Int)=(l1.length:Int)
  · rw [if_pos c3] at H
    have c3b0:((l0.length:Int)==(l1.length:Int))=true:=beq_iff_eq.mpr c3;have c3b1:((l0.length:Int) !=(l1.length:Int))=false:=bne_eq_false_iff_eq.mpr c3;have c3b2:(l0.length==l1.length)=true:=by first|simpa using c3|(simp at c3 ⊢;omega)
    clear c3;have H':=qAm H;clear H;go_enter Try.func32,Try.ntmps32;go_wp2;repeat(go_quiet (fail);try go_wp2)
    try simp only [Act.put,qSa,qSc,qSb]
    go_loopg [5] k (fun kq v5 w'=>∃(x5_1:Int),v5=.int .i64 x5_1∧Aside0 (laws_eqInt64S.l0 kq l0 l1 x5_1=some r)∧Aside0 (kq≤k)∧Drawn0 w w')
    case atStart=>exact⟨(0),qB37,H',⟨Nat.le_refl _⟩,by repeat(first|exact Drawn0.refl _|apply Drawn0.step)⟩
    case round=>
      clear H';try clear c1
      try clear p2
      try clear c3
      try clear c3b0
      try clear c3b1
      try clear c3b2
      obtain⟨x5_1,rfl,HA,HK1,⟨m1,rfl⟩⟩:=hrel;cases gk with
      |zero=>exact absurd HA.1 (by simp [laws_eqInt64S.l0])
      |succ k1=>
        have H:=HA.1;clear HA;simp only [laws_eqInt64S.l0] at H
        by_cases c4:x5_1<(l0.length:Int)
        · rw [if_pos c4] at H
          have c4b0:decide (x5_1<(l0.length:Int))=true:=decide_eq_true c4;clear c4
          by_cases c5:0≤x5_1
          · rw [if_pos c5] at H
            have c5b0:decide (0≤x5_1)=true:=decide_eq_true c5;clear c5
            by_cases c6:x5_1<(l1.length:Int)
            · rw [if_pos c6] at H
              have c6b0:decide (x5_1<(l1.length:Int))=true:=decide_eq_true c6;clear c6
              by_cases c7:(rd l0 x5_1)=(rd l1 x5_1)
              · rw [if_pos c7] at H
                have c7b0:((rd l0 x5_1)==(rd l1 x5_1))=true:=beq_iff_eq.mpr c7;have c7b1:((rd l0 x5_1) !=(rd l1 x5_1))=false:=bne_eq_false_iff_eq.mpr c7;clear c7;have H':=qAm H;clear H;have p208:0≤(x5_1:Int):=of_decide_eq_true qB36;have q208:x5_1<(l0.length:Int):=of_decide_eq_true qB36;obtain⟨ad208,e208,hx208_0⟩:=Kd.at_int HR0.1 x5_1 p208 q208;cases e208
                replace p208:=eq_true p208;replace q208:=eq_true q208;have p209:0≤(x5_1:Int):=of_decide_eq_true qB36;have q209:x5_1<(l1.length:Int):=of_decide_eq_true qB36;obtain⟨ad209,e209,hx209_0⟩:=Kd.at_int HR1.1 x5_1 p209 q209;cases e209
                replace p209:=eq_true p209;replace q209:=eq_true q209;go_wp2;repeat(go_quiet (fail);try go_wp2)
                (first|go_roundg k1|((try simp only [add_plain] at *);go_roundg k1))
                case measure=>have:=HK1.1;omega
                case rel=>exact⟨(wrap64 (x5_1+1)),qB37,H',⟨by have:=HK1.1;omega⟩,by repeat(first|exact Drawn0.refl _|apply Drawn0.step)⟩
              · rw [if_neg c7] at H
                have c7b0:((rd l0 x5_1)==(rd l1 x5_1))=false:=beq_eq_false_iff_ne.mpr c7;have c7b1:((rd l0 x5_1) !=(rd l1 x5_1))=true:=bne_iff_ne.mpr c7;obtain rfl:=Option.some.inj H;have p208:0≤(x5_1:Int):=of_decide_eq_true qB36;have q208:x5_1<(l0.length:Int):=of_decide_eq_true qB36;obtain⟨ad208,e208,hx208_0⟩:=Kd.at_int HR0.1 x5_1 p208 q208;cases e208
                replace p208:=eq_true p208;replace q208:=eq_true q208;have p209:0≤(x5_1:Int):=of_decide_eq_true qB36;have q209:x5_1<(l1.length:Int):=of_decide_eq_true qB36;obtain⟨ad209,e209,hx209_0⟩:=Kd.at_int HR1.1 x5_1 p209 q209;cases e209
                replace p209:=eq_true p209;replace q209:=eq_true q209;go_wp2;repeat(go_quiet (fail);try go_wp2)
                go_ret;exact⟨by first|rfl|(simp;done)|(simp [*];done),by repeat(first|exact Drawn0.refl _|apply Drawn0.step)⟩
            · rw [if_neg c6] at H
              exact absurd H (by simp)
          · rw [if_neg c5] at H
            exact absurd H (by simp)
        · rw [if_neg c4] at H
          have c4b0:decide (x5_1<(l0.length:Int))=false:=decide_eq_false c4;clear c4;obtain rfl:=Option.some.inj H;go_wp2;repeat(go_quiet (fail);try go_wp2)
          go_ret;exact⟨by first|rfl|(simp;done)|(simp [*];done),by repeat(first|exact Drawn0.refl _|apply Drawn0.step)⟩
  · rw [if_neg c3] at H
    have c3b0:((l0.length:Int)==(l1.length:Int))=false:=beq_eq_false_iff_ne.mpr c3;have c3b1:((l0.length:Int) !=(l1.length:Int))=true:=bne_iff_ne.mpr c3;have c3b2:(l0.length==l1.length)=false:=by first|simpa using c3|(simp at c3 ⊢;omega)
    obtain rfl:=Option.some.inj H;go_enter Try.func32,Try.ntmps32;go_wp2;repeat(go_quiet (fail);try go_wp2)
    go_ret;exact⟨by first|rfl|(simp;done)|(simp [*];done),by repeat(first|exact Drawn0.refl _|apply Drawn0.step)⟩

end Go.Proofs.Ytejpliodhnglbaa.PFnExactPrimesOfNorm
