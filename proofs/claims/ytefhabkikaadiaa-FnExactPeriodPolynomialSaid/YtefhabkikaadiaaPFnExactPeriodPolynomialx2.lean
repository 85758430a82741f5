/- The functions that the law reaches, as plain functions, each with the proof that the program comes to it; no condition. Written by a program of this session (wip/mp.py) over the printing of the kit; what is marked HAND is told by hand. -/
import Derived.Test.YtefhabkikaadiaaPFnExactPeriodPolynomialx0
namespace Go.Proofs.Ytefhabkikaadiaa.PFnExactPeriodPolynomial
open Go.RowKit Go.Proofs.YtefhabkikaadiaaW.PrintWords Go.Proofs.YtefhabkikaadiaaW.PrintLast Go.Proofs.YtefhabkikaadiaaW.PrintMore
attribute [local go_sem] max2_int min2_int max_two min_two max_three min_three max_four min_four   -- for this text's walks alone
set_option linter.unusedVariables false
set_option linter.unusedSimpArgs false

/-! ### spec_l06Root: function 127 -/
mutual
def spec_l06Root.l0:Nat→Int→Int→Option (Int)
  |0,_,_=>none
  |k+1,x0,x3=>if x0=0 then (none) else (spec_l06Root.l1 k x0 x3 1 (Int.tmod x3 x0))
def spec_l06Root.l1:Nat→Int→Int→Int→Int→Option (Int)
  |0,_,_,_,_=>none
  |k+1,x0,x3,x4,x5=>if x5=1 then (if x4=(wrap64 (x0 - 1)) then (some x3) else (spec_l06Root.l0 k x0 (wrap64 (x3+1)))) else (if x0=0 then (none) else (spec_l06Root.l1 k x0 x3 (wrap64 (x4+1)) (Int.tmod (wrap64 (x5*x3)) x0)))
end
def spec_l06Root.f (k:Nat) (a0:Int):Option (Int):=spec_l06Root.l0 k a0 2
theorem spec_l06Root.mono_l:∀k,(∀y0 y1,LeO (spec_l06Root.l0 k y0 y1) (spec_l06Root.l0 (k+1) y0 y1))∧(∀y0 y1 y2 y3,LeO (spec_l06Root.l1 k y0 y1 y2 y3) (spec_l06Root.l1 (k+1) y0 y1 y2 y3))
  |0=>⟨fun _ _ r h=>by simp [spec_l06Root.l0] at h,fun _ _ _ _ r h=>by simp [spec_l06Root.l1] at h⟩
  |k+1=>by
    obtain⟨ih0,ih1⟩:=spec_l06Root.mono_l k;refine⟨?_,?_⟩
    · intro y0 y1
      unfold spec_l06Root.l0;repeat' first
      |(with_reducible exact ih0 _ _)
      |(with_reducible exact ih1 _ _ _ _)
      |(with_reducible exact LeO.refl _)
      |(with_reducible exact LeO.none _)
      |(with_reducible refine LeO.ite ?_ ?_)
      |(with_reducible refine LeO.bind ?_ (fun _=>?_))
      |exact ih0 _ _
      |exact ih1 _ _ _ _
      |exact LeO.none _
      |refine LeO.ite ?_ ?_
      |refine LeO.bind ?_ (fun _=>?_)
    · intro y0 y1 y2 y3
      unfold spec_l06Root.l1;repeat' first
      |(with_reducible exact ih0 _ _)
      |(with_reducible exact ih1 _ _ _ _)
      |(with_reducible exact LeO.refl _)
      |(with_reducible exact LeO.none _)
      |(with_reducible refine LeO.ite ?_ ?_)
      |(with_reducible refine LeO.bind ?_ (fun _=>?_))
      |exact ih0 _ _
      |exact ih1 _ _ _ _
      |exact LeO.none _
      |refine LeO.ite ?_ ?_
      |refine LeO.bind ?_ (fun _=>?_)
theorem spec_l06Root.mono:∀a0 k,LeO (spec_l06Root.f k a0) (spec_l06Root.f (k+1) a0):=by
  intro a0 k;obtain⟨ih0,ih1⟩:=spec_l06Root.mono_l k;unfold spec_l06Root.f;repeat' first
      |(with_reducible exact ih0 _ _)
      |(with_reducible exact ih1 _ _ _ _)
      |(with_reducible exact LeO.refl _)
      |(with_reducible exact LeO.none _)
      |(with_reducible refine LeO.ite ?_ ?_)
      |(with_reducible refine LeO.bind ?_ (fun _=>?_))
      |exact ih0 _ _
      |exact ih1 _ _ _ _
      |exact LeO.none _
      |refine LeO.ite ?_ ?_
      |refine LeO.bind ?_ (fun _=>?_)
set_option maxHeartbeats 8000000 in
set_option maxRecDepth 100000 in
theorem spec_l06Root.calls (k:Nat) (a0:Int) (r:Int) (w:World) (h:spec_l06Root.f k a0=some r):
    Calls Try.prog 127 #[.int .i64 a0] w fun e w'=>e=.returned (.int .i64 r)∧Drawn0 w w':=by
  have H:(spec_l06Root.l0 k a0 2)=some r:=h;clear h;have H':=qAm H;clear H;go_enter Try.func127,Try.ntmps127;go_wp2;try simp only [Act.put,qSa,qSc,qSb]
  go_loopg [3] k (fun kq v3 w'=>∃(x3_1:Int),v3=.int .i64 x3_1∧Aside0 (spec_l06Root.l0 kq a0 x3_1=some r)∧Aside0 (kq≤k)∧Drawn0 w w')
  case atStart=>exact⟨(2),qB47,H',⟨Nat.le_refl _⟩,by repeat(first|exact Drawn0.refl _|apply Drawn0.step)⟩
  case round=>
    clear H';try clear c1
    obtain⟨x3_1,rfl,HA,HK1,⟨m1,rfl⟩⟩:=hrel;cases gk with
    |zero=>exact absurd HA.1 (by simp [spec_l06Root.l0])
    |succ k1=>
      have H:=HA.1;clear HA;simp only [spec_l06Root.l0] at H
      by_cases c2:a0=0
      · rw [if_pos c2] at H
        exact absurd H (by simp)
      · rw [if_neg c2] at H
        have c2b0:(a0==0)=false:=beq_eq_false_iff_ne.mpr c2;have c2b1:(a0 !=0)=true:=bne_iff_ne.mpr c2;have H':=qAm H;clear H;go_wp2;try simp only [Act.put,qSa,qSc,qSb]
        go_loopg [4,5] k1 (fun kq v4 v5 w'=>∃(x4_2:Int) (x5_2:Int),v4=.int .i64 x4_2∧v5=.int .i64 x5_2∧Aside0 (spec_l06Root.l1 kq a0 x3_1 x4_2 x5_2=some r)∧Aside0 (kq≤k1)∧Drawn0 w w')
        case atStart=>exact⟨(1),(Int.tmod x3_1 a0),qB47,qB47,H',⟨Nat.le_refl _⟩,by repeat(first|exact Drawn0.refl _|apply Drawn0.step)⟩
        case round=>
          clear H';try clear c1
          try clear c2
          try clear c2b0
          try clear c2b1
          try clear p2
          obtain⟨x4_2,x5_2,rfl,rfl,HA,HK2,⟨m2,rfl⟩⟩:=hrel;cases gk with
          |zero=>exact absurd HA.1 (by simp [spec_l06Root.l1])
          |succ k2=>
            have H:=HA.1;clear HA;simp only [spec_l06Root.l1] at H
            by_cases c3:x5_2=1
            · rw [if_pos c3] at H
              have c3b0:(x5_2==1)=true:=beq_iff_eq.mpr c3;have c3b1:(x5_2 !=1)=false:=bne_eq_false_iff_eq.mpr c3;clear c3
              by_cases c4:x4_2=(wrap64 (a0 - 1))
              · rw [if_pos c4] at H
                have c4b0:(x4_2==(wrap64 (a0 - 1)))=true:=beq_iff_eq.mpr c4;have c4b1:(x4_2 !=(wrap64 (a0 - 1)))=false:=bne_eq_false_iff_eq.mpr c4;clear c4;obtain rfl:=Option.some.inj H;go_wp2;go_ret;exact⟨by first|rfl|(simp;done)|(simp [*];done),by repeat(first|exact Drawn0.refl _|apply Drawn0.step)⟩
              · rw [if_neg c4] at H
                have c4b0:(x4_2==(wrap64 (a0 - 1)))=false:=beq_eq_false_iff_ne.mpr c4;have c4b1:(x4_2 !=(wrap64 (a0 - 1)))=true:=bne_iff_ne.mpr c4;have H':=qAm H;clear H;go_wp2
                (first|go_roundg k2|((try simp only [add_plain] at *);go_roundg k2))
                case measure=>have:=HK1.1;have:=HK2.1;omega
                case rel=>exact⟨(wrap64 (x3_1+1)),qB47,H',⟨by have:=HK1.1;have:=HK2.1;omega⟩,by repeat(first|exact Drawn0.refl _|apply Drawn0.step)⟩
            · rw [if_neg c3] at H
              have c3b0:(x5_2==1)=false:=beq_eq_false_iff_ne.mpr c3;have c3b1:(x5_2 !=1)=true:=bne_iff_ne.mpr c3
              by_cases c5:a0=0
              · rw [if_pos c5] at H
                exact absurd H (by simp)
              · rw [if_neg c5] at H
                have c5b0:(a0==0)=false:=beq_eq_false_iff_ne.mpr c5;have c5b1:(a0 !=0)=true:=bne_iff_ne.mpr c5;have H':=qAm H;clear H;go_wp2
                (first|go_roundg k2|((try simp only [add_plain] at *);go_roundg k2))
                case measure=>have:=HK1.1;have:=HK2.1;omega
                case rel=>exact⟨(wrap64 (x4_2+1)),(Int.tmod (wrap64 (x5_2*x3_1)) a0),qB47,qB47,H',⟨by have:=HK1.1;have:=HK2.1;omega⟩,by repeat(first|exact Drawn0.refl _|apply Drawn0.step)⟩

/-! ### spec_l06Indices: function 95 -/
def spec_l06Indices.l0:Nat→Int→List Int→Int→Int→Int→Option (List Int)
  |0,_,_,_,_,_=>none
  |k+1,x0,x3,x4,x5,x6=>if x6<(wrap64 (x0 - 1)) then (if 0≤x5 then (if x5<(x3.length:Int) then (if x0=0 then (none) else (spec_l06Indices.l0 k x0 (x3.set (x5:Int).toNat x6) x4 (Int.tmod (wrap64 (x5*x4)) x0) (wrap64 (x6+1)))) else (none)) else (none)) else (some x3)
def spec_l06Indices.f (k:Nat) (a0:Int):Option (List Int):=if 0≤a0 then (if (a0:Int).toNat≤35184372088832 then ((some (List.replicate (a0:Int).toNat 0:List Int)).bind fun y116=>((spec_l06Root.f k a0).bind fun t119=>(if 0<(y116.length:Int) then (spec_l06Indices.l0 k a0 (y116.set (0:Int).toNat (-1)) t119 1 0) else (none)))) else (none)) else (none)
theorem spec_l06Indices.mono_l:∀k,(∀y0 y1 y2 y3 y4,LeO (spec_l06Indices.l0 k y0 y1 y2 y3 y4) (spec_l06Indices.l0 (k+1) y0 y1 y2 y3 y4))
  |0=>fun _ _ _ _ _ r h=>by simp [spec_l06Indices.l0] at h
  |k+1=>by
    have ih0:=spec_l06Indices.mono_l k
    · intro y0 y1 y2 y3 y4
      unfold spec_l06Indices.l0;repeat' first
      |(with_reducible exact ih0 _ _ _ _ _)
      |(with_reducible exact spec_l06Root.mono _ _)
      |(with_reducible exact LeO.refl _)
      |(with_reducible exact LeO.none _)
      |(with_reducible refine LeO.ite ?_ ?_)
      |(with_reducible refine LeO.bind ?_ (fun _=>?_))
      |exact ih0 _ _ _ _ _
      |exact spec_l06Root.mono _ _
      |exact LeO.none _
      |refine LeO.ite ?_ ?_
      |refine LeO.bind ?_ (fun _=>?_)
theorem spec_l06Indices.mono:∀a0 k,LeO (spec_l06Indices.f k a0) (spec_l06Indices.f (k+1) a0):=by
  intro a0 k;have ih0:=spec_l06Indices.mono_l k;unfold spec_l06Indices.f;repeat' first
      |(with_reducible exact ih0 _ _ _ _ _)
      |(with_reducible exact spec_l06Root.mono _ _)
      |(with_reducible exact LeO.refl _)
      |(with_reducible exact LeO.none _)
      |(with_reducible refine LeO.ite ?_ ?_)
      |(with_reducible refine LeO.bind ?_ (fun _=>?_))
      |exact ih0 _ _ _ _ _
      |exact spec_l06Root.mono _ _
      |exact LeO.none _
      |refine LeO.ite ?_ ?_
      |refine LeO.bind ?_ (fun _=>?_)
set_option maxHeartbeats 8000000 in
set_option maxRecDepth 100000 in
theorem spec_l06Indices.calls (k:Nat) (a0:Int) (r:List Int) (w:World) (h:spec_l06Indices.f k a0=some r):
    Calls Try.prog 95 #[.int .i64 a0] w fun e w'=>∃v0_:Value,e=.returned (v0_)∧Kd.R (Kd.int .i64) 2 w' w.heap.size (fun _=>True) v0_ r∧Below w.heap.size w w':=by
  have HB:=qAm (Below.refl w.heap.size w);have H:(if 0≤a0 then (if (a0:Int).toNat≤35184372088832 then ((some (List.replicate (a0:Int).toNat 0:List Int)).bind fun y116=>((spec_l06Root.f k a0).bind fun t119=>(if 0<(y116.length:Int) then (spec_l06Indices.l0 k a0 (y116.set (0:Int).toNat (-1)) t119 1 0) else (none)))) else (none)) else (none))=some r:=h;clear h
  by_cases c2:0≤a0
  · rw [if_pos c2] at H
    have c2b0:=eq_true c2;have c2b1:decide (0≤a0)=true:=decide_eq_true c2;clear c2
    by_cases c3:(a0:Int).toNat≤35184372088832
    · rw [if_pos c3] at H
      have c3b0:=eq_true c3;have c3b1:decide ((a0:Int).toNat≤35184372088832)=true:=decide_eq_true c3;clear c3;obtain⟨y116,hy116⟩:∃y_:List Int,y_=(List.replicate (a0:Int).toNat 0):=⟨_,rfl⟩
      replace H:((spec_l06Root.f k a0).bind fun t119=>(if 0<(y116.length:Int) then (spec_l06Indices.l0 k a0 (y116.set (0:Int).toNat (-1)) t119 1 0) else (none)))=some r:=by first|(rw [hy116];with_reducible exact H)|(have H2_:=(Option.bind_some _ _).symm.trans H;rw [hy116];with_reducible exact H2_)|(have H2_:=(Option.bind_some _ _).symm.trans H;with_reducible exact H2_)|with_reducible exact H|(rw [hy116];exact H)|exact H
      have Ny116:=qAm hy116;clear hy116;replace H:=qOb H;obtain⟨t119,A40,H⟩:=H;replace H:(if 0<(y116.length:Int) then (spec_l06Indices.l0 k a0 (y116.set (0:Int).toNat (-1)) t119 1 0) else (none))=some r:=H;have A4:=qAm A40;clear A40
      by_cases c5:0<(y116.length:Int)
      · rw [if_pos c5] at H
        have c5b0:decide (0<(y116.length:Int))=true:=decide_eq_true c5;have c5b1:decide (0<y116.length)=true:=decide_eq_true (by omega);clear c5;obtain⟨y120,hy120⟩:∃y_:List Int,y_=(y116.set (0:Int).toNat (-1)):=⟨_,rfl⟩
        replace H:(spec_l06Indices.l0 k a0 y120 t119 1 0)=some r:=by first|(rw [hy120];with_reducible exact H)|(have H2_:=(Option.bind_some _ _).symm.trans H;rw [hy120];with_reducible exact H2_)|(have H2_:=(Option.bind_some _ _).symm.trans H;with_reducible exact H2_)|with_reducible exact H|(rw [hy120];exact H)|exact H
        have Ny120:=qAm hy120;clear hy120;have H':=qAm H;clear H;go_enter Try.func95,Try.ntmps95;try go_wp2
        have n0_:=qAm (below_drew1 HB.1);clear HB;have HB:=n0_;clear n0_;refine start_ (n:=7) (S:=fun w'=>True) (ds:=[]) #[false,false,false,false,false,false,false] (by kernel_rfl) rfl rfl trivial (fun hHeld=>?_);generalize w.drew=w7 at HB hHeld ⊢;refine pure_ (i:=0) (N:=some 7) (v:=?_) (a':=?_) #[true,false,false,false,false,false,false] rfl rfl (by kernel_rfl) (fun _ _ _ h=>h) (Or.inl ⟨by rfl,?_⟩) ?_ ?_;rotate_left
        · intro w'
          go_simp;with_reducible rfl
        rotate_left
        · simp only [Act.put,qSa,qSb,qSc,i64_w,i32_w]
          rfl
        refine pure_ (i:=2) (N:=some 9) (v:=?_) (a':=?_) #[true,false,true,false,false,false,false] rfl rfl (by kernel_rfl) (fun _ _ _ h=>h) (Or.inl ⟨by rfl,?_⟩) ?_ ?_;rotate_left
        · intro w'
          go_simp;with_reducible rfl
        rotate_left
        · simp only [Act.put,qSa,qSb,qSc,i64_w,i32_w]
          rfl
        refine join_ (σ:=Value) 3 #[true,true,true,true,false,false,false] (fun s_=>[(8,s_),(10,.int .i64 t119)]) (fun s_ w'=>(Kd.R (Kd.int .i64) 2 w' w.heap.size (fun _=>True) s_ y116)∧(Below w.heap.size w w')) ?_ ?_;rotate_left
        · intro hCont
          refine two_ (i:=1) (j:=3) (Ni:=some 8) (Nj:=some 10) #[true,true,true,false,false,false,false] #[true,false,true,true,false,false,false] rfl rfl rfl rfl (by kernel_rfl) (by decide) (by decide) (fun K hK=>?_) (fun K hK=>?_)
          · skip
            refine Kd.R_make_step (Kd.int .i64) _ 2 (by rfl) (N:=8) rfl 22 _ _ rfl a0 rfl rfl Try.underlying22 (.int .i64 0) 8 info2 rfl (by decide) (by omega) 0 (ok:=fun _=>True) (okp:=fun _=>True) rfl (fun _ hk=>hk) trivial (of_decide_eq_true qB46) (Nat.le_trans (Nat.mul_le_mul_right _ (of_decide_eq_true qB46:a0.toNat≤35184372088832)) (by omega)) (Below.refl _ _) (Nat.le_refl _) ?_;intro v117 w8 ho9 hb hg_ hnew_;clear hg_ hnew_
            (first|rw [← Ny116.1] at ho9|(simp only [Int.reduceToNat] at ho9;rw [← Ny116.1] at ho9))
            have n0_:=qAm (Kd.R_lower ho9 (below_size qB19));have n1_:=qAm (below_step qB19 hb);clear HB;have HO118:=n0_;have HB:=n1_;clear n0_ n1_ hb ho9;refine hK.out _ _ trivial (fun hHeld=>?_);clear hK K;refine norm_ (a':=?_) ?_ ?_;rotate_left
            · show Act.put _ (some 8) _=_
              simp only [Act.put,qSa,qSb,qSc,i64_w,i32_w];rfl
            refine one_ (i:=3) (N:=some 10) #[true,true,true,true,false,false,false] rfl rfl (by kernel_rfl) (by decide) (fun K hK=>?_);refine goes_ Try.func127 (by kernel_rfl) rfl #[.int .i64 a0] (by rfl) rfl rfl qB15 ?_;with_reducible refine(spec_l06Root.calls k a0 t119 _ A4.1).mono ?_
            rintro e w' ⟨rfl,⟨nd,rfl⟩⟩;refine⟨_,rfl,?_⟩;refine hK.out _ _ trivial (fun hHeld=>?_);clear hK K;refine norm_ (a':=?_) ?_ ?_;rotate_left
            · show Act.put _ (some 10) _=_
              simp only [Act.put,qSa,qSb,qSc,i64_w,i32_w];rfl
            exact norm_ qB45 (hCont (v117) _ ⟨qB24,qB19⟩)
          · skip
            refine goes_ Try.func127 (by kernel_rfl) rfl #[.int .i64 a0] (by rfl) rfl rfl qB15 ?_;with_reducible refine(spec_l06Root.calls k a0 t119 _ A4.1).mono ?_
            rintro e w' ⟨rfl,⟨nd,rfl⟩⟩;refine⟨_,rfl,?_⟩;refine hK.out _ _ trivial (fun hHeld=>?_);clear hK K;refine norm_ (a':=?_) ?_ ?_;rotate_left
            · show Act.put _ (some 10) _=_
              simp only [Act.put,qSa,qSb,qSc,i64_w,i32_w];rfl
            refine one_ (i:=1) (N:=some 8) #[true,true,true,true,false,false,false] rfl rfl (by kernel_rfl) (by decide) (fun K hK=>?_);refine Kd.R_make_step (Kd.int .i64) _ 2 (by rfl) (N:=8) rfl 22 _ _ rfl a0 rfl rfl Try.underlying22 (.int .i64 0) 8 info2 rfl (by decide) (by omega) 0 (ok:=fun _=>True) (okp:=fun _=>True) rfl (fun _ hk=>hk) trivial (of_decide_eq_true qB46) (Nat.le_trans (Nat.mul_le_mul_right _ (of_decide_eq_true qB46:a0.toNat≤35184372088832)) (by omega)) (Below.refl _ _) (Nat.le_refl _) ?_;intro v117 w8 ho9 hb hg_ hnew_;clear hg_ hnew_
            (first|rw [← Ny116.1] at ho9|(simp only [Int.reduceToNat] at ho9;rw [← Ny116.1] at ho9))
            have n0_:=qAm (Kd.R_lower ho9 (below_size qB19));have n1_:=qAm (below_step qB19 hb);clear HB;have HO118:=n0_;have HB:=n1_;clear n0_ n1_ hb ho9;refine hK.out _ _ trivial (fun hHeld=>?_);clear hK K;refine norm_ (a':=?_) ?_ ?_;rotate_left
            · show Act.put _ (some 8) _=_
              simp only [Act.put,qSa,qSb,qSc,i64_w,i32_w];rfl
            exact norm_ qB45 (hCont (v117) _ ⟨qB24,qB19⟩)
        rintro v117 w10 ⟨h0_,h1_⟩;have n0_:Aside0 (Kd.R (Kd.int .i64) 2 w10 w.heap.size (fun _=>True) v117 y116):=⟨h0_⟩
        have n1_:Aside0 (Below w.heap.size w w10):=⟨h1_⟩
        clear HB h0_ h1_;have HO118:=n0_;have HB:=n1_;clear n0_ n1_;have hHeld:=trivial;refine norm_ (a':=?_) ?_ ?_;rotate_left
        · simp only [putAll,Act.put,qSa,qSb,qSc]
          rfl
        refine pure_ (i:=4) (N:=some 3) (v:=?_) (a':=?_) #[true,true,true,true,true,false,false] rfl rfl (by kernel_rfl) (fun _ _ _ h=>h) (Or.inl ⟨by rfl,?_⟩) ?_ ?_;rotate_left
        · intro w'
          go_simp;with_reducible rfl
        rotate_left
        · simp only [Act.put,qSa,qSb,qSc,i64_w,i32_w]
          rfl
        refine pure_ (i:=5) (N:=some 4) (v:=?_) (a':=?_) #[true,true,true,true,true,true,false] rfl rfl (by kernel_rfl) (fun _ _ _ h=>h) (Or.inl ⟨by rfl,?_⟩) ?_ ?_;rotate_left
        · intro w'
          go_simp;with_reducible rfl
        rotate_left
        · simp only [Act.put,qSa,qSb,qSc,i64_w,i32_w]
          rfl
        refine pure_ (i:=6) (N:=some 5) (v:=?_) (a':=?_) #[true,true,true,true,true,true,true] rfl rfl (by kernel_rfl) (fun _ _ _ h=>h) (Or.inl ⟨by rfl,?_⟩) ?_ ?_;rotate_left
        · intro w'
          go_simp;with_reducible rfl
        rotate_left
        · simp only [Act.put,qSa,qSb,qSc,i64_w,i32_w]
          rfl
        refine done_ (by kernel_rfl) ?_;have p6:0≤(0:Int):=(by omega)
        have q6:(0:Int)<((y116.length:Int):Int):=of_decide_eq_true qB46;have qi6:(0<y116.length)=True:=eq_true (by omega);obtain⟨go6,co6,eo6,gb6,gl6,cl6,HG6⟩:=Kd.R_form HO118.1 (by omega)
        (first|cases eo6|(injection eo6 with ea_ en_ ec_;(first|subst ea_|(injection ea_ with ea_;subst ea_));subst ec_;clear en_))
        have GB6:=qAm gb6;have GG6:=qAm HG6;clear gb6 gl6 HG6;obtain⟨hx6_0,hf6_0⟩:=Kd.R_celln 0 HO118.1 (0:Int) p6 q6
        (try rw [show((0:Int)).toNat=0 from rfl] at hx6_0)
        (try simp only [Nat.reduceMul,Nat.zero_mul,Nat.zero_add,Nat.reduceAdd] at hx6_0)
        (try rw [show((0:Int)).toNat=0 from rfl] at hf6_0)
        (try simp only [Nat.reduceMul,Nat.zero_mul,Nat.zero_add,Nat.reduceAdd] at hf6_0)
        replace p6:=eq_true p6;replace q6:=eq_true q6;obtain⟨hy11_,hz11_⟩:=Kd.R_celln 0 HO118.1 (0:Int) (by omega) (of_decide_eq_true qB46)
        (try simp only [Int.reduceToNat,Int.toNat_zero,Int.toNat_ofNat,Nat.reduceMul,Nat.zero_mul,Nat.zero_add] at hy11_ hz11_)
        (try rw [show((0:Int)).toNat=0 from rfl] at hy11_)
        (try rw [show((0:Int)).toNat=0 from rfl] at hz11_)
        have HP11:=Kd.R_putg HO118.1 (0:Int) (-1);try go_wp2_with (first|((with_reducible refine gate_store (t:=2) (p:=12) rfl ?_);refine store_event (t:=2) (p:=12) (v:=?vo_w12) (w1:=(w10.setCell ⟨go6,(0:Int).toNat,none⟩ (.int .i64 (-1)))) ?hg ?ho ?hn ?hr ?_;(case ho=>rfl);(case hg=>rfl);(case hn=>rfl);(case hr=>first|(go_simp;done)|(go_simp;rfl));intro w12 hw;have hg:w10.grownBy w12 (some go6):=(by rw [hw];exact HP11.2);have hp_:Kd.R (Kd.int .i64) 2 w12 w.heap.size (fun _=>True) (.slice (some ⟨go6,0,none⟩) y116.length co6) y120:=(by rw [hw,Ny120.1];exact HP11.1);clear HP11;have n0_:=qAm (hp_);have n1_:=qAm ((by rw [hw];exact below_set (HB.1) GB6.1:Below w.heap.size w w12));clear HO118;clear HB;have HO118:=n0_;have HB:=n1_;clear n0_ n1_;clear hg hw hp_))
        try simp only [Act.put,qSa,qSc,qSb]
        go_loopg [5,6] k (fun kq v5 v6 w'=>∃(x3_1:List Int) (x5_1:Int) (x6_1:Int),v5=.int .i64 x5_1∧v6=.int .i64 x6_1∧Aside0 (spec_l06Indices.l0 kq a0 x3_1 t119 x5_1 x6_1=some r)∧Aside0 (kq≤k)∧Aside0 (Kd.R (Kd.int .i64) 2 w' w.heap.size (fun _=>True) (.slice (some ⟨go6,0,none⟩) y116.length co6) x3_1)∧Aside0 (Below w.heap.size w w'))
        case atStart=>exact⟨(y120),(1),(0),qB47,qB47,H',⟨Nat.le_refl _⟩,⟨by (with_reducible repeat(first|apply Kd.R_alloc|apply Kd.R_drewN|apply Kd.R_drew));exact HO118.1⟩,⟨by repeat(first|(with_reducible first|exact HB.1|apply below_alloc|apply pw_below_drewN|apply below_drew1)|exact HB.1)⟩⟩
        case round=>
          clear H';try clear c1
          try clear c2
          try clear c2b0
          try clear c2b1
          try clear p2
          try clear c3
          try clear c3b0
          try clear c3b1
          try clear c5
          try clear c5b0
          try clear c5b1
          try clear p6
          try clear q6
          try clear hx6
          try clear qi6
          try clear hf6
          try clear c9
          try clear c12
          try clear hx6_0
          try clear p6
          try clear q6
          obtain⟨x3_1,x5_1,x6_1,rfl,rfl,HA,HK1,HO_3,HB⟩:=hrel;have hl3_1:=(Kd.R_reads' HO_3.1).1;rw [hl3_1] at HO_3
          (try simp only [hl3_1])
          cases gk with
          |zero=>exact absurd HA.1 (by simp [spec_l06Indices.l0])
          |succ k1=>
            have H:=HA.1;clear HA;simp only [spec_l06Indices.l0] at H
            by_cases c13:x6_1<(wrap64 (a0 - 1))
            · rw [if_pos c13] at H
              have c13b0:decide (x6_1<(wrap64 (a0 - 1)))=true:=decide_eq_true c13;clear c13
              by_cases c14:0≤x5_1
              · rw [if_pos c14] at H
                have c14b0:decide (0≤x5_1)=true:=decide_eq_true c14;clear c14
                by_cases c15:x5_1<(x3_1.length:Int)
                · rw [if_pos c15] at H
                  have c15b0:decide (x5_1<(x3_1.length:Int))=true:=decide_eq_true c15;clear c15;obtain⟨y121,hy121⟩:∃y_:List Int,y_=(x3_1.set (x5_1:Int).toNat x6_1):=⟨_,rfl⟩
                  replace H:(if a0=0 then (none) else (spec_l06Indices.l0 k1 a0 y121 t119 (Int.tmod (wrap64 (x5_1*t119)) a0) (wrap64 (x6_1+1))))=some r:=by first|(rw [hy121];with_reducible exact H)|(have H2_:=(Option.bind_some _ _).symm.trans H;rw [hy121];with_reducible exact H2_)|(have H2_:=(Option.bind_some _ _).symm.trans H;with_reducible exact H2_)|with_reducible exact H|(rw [hy121];exact H)|exact H
                  have Ny121:=qAm hy121;clear hy121
                  by_cases c17:a0=0
                  · rw [if_pos c17] at H
                    exact absurd H (by simp)
                  · rw [if_neg c17] at H
                    have c17b0:(a0==0)=false:=beq_eq_false_iff_ne.mpr c17;have c17b1:(a0 !=0)=true:=bne_iff_ne.mpr c17;have H':=qAm H;clear H;have p16:0≤(x5_1:Int):=of_decide_eq_true qB46;have q16:(x5_1:Int)<((x3_1.length:Int):Int):=of_decide_eq_true qB46;obtain⟨hx16_0,hf16_0⟩:=Kd.R_celln 0 HO_3.1 (x5_1:Int) p16 q16;replace p16:=eq_true p16;replace q16:=eq_true q16;have HP18:=Kd.R_putg HO_3.1 (x5_1:Int) x6_1;go_wp2_with (first|((with_reducible refine gate_store (t:=2) (p:=22) rfl ?_);refine store_event (t:=2) (p:=22) (v:=?vo_w19) (w1:=(wr.setCell ⟨go6,(x5_1:Int).toNat,none⟩ (.int .i64 x6_1))) ?hg ?ho ?hn ?hr ?_;(case ho=>rfl);(case hg=>rfl);(case hn=>rfl);(case hr=>first|(go_simp;done)|(go_simp;rfl));intro w19 hw;have hg:wr.grownBy w19 (some go6):=(by rw [hw];exact HP18.2);have hp_:Kd.R (Kd.int .i64) 2 w19 w.heap.size (fun _=>True) (.slice (some ⟨go6,0,none⟩) x3_1.length co6) y121:=(by rw [hw,Ny121.1];exact HP18.1);clear HP18;have n0_:=qAm (hp_);have n1_:=qAm ((by rw [hw];exact below_set (HB.1) GB6.1:Below w.heap.size w w19));clear HO_3;clear HB;have HO_3:=n0_;have HB:=n1_;clear n0_ n1_;clear hg hw hp_))
                    (try simp only [← hl3_1])
                    (first|go_roundg k1|((try simp only [add_plain] at *);go_roundg k1))
                    case measure=>have:=HK1.1;omega
                    case rel=>exact⟨(y121),(Int.tmod (wrap64 (x5_1*t119)) a0),(wrap64 (x6_1+1)),qB47,qB47,H',⟨by have:=HK1.1;omega⟩,⟨by (try simp only [hl3_1]);(with_reducible repeat(first|apply Kd.R_alloc|apply Kd.R_drewN|apply Kd.R_drew));exact HO_3.1⟩,⟨by repeat(first|(with_reducible first|exact HB.1|apply below_alloc|apply pw_below_drewN|apply below_drew1)|exact HB.1)⟩⟩
                · rw [if_neg c15] at H
                  exact absurd H (by simp)
              · rw [if_neg c14] at H
                exact absurd H (by simp)
            · rw [if_neg c13] at H
              have c13b0:decide (x6_1<(wrap64 (a0 - 1)))=false:=decide_eq_false c13;clear c13;obtain rfl:=Option.some.inj H;go_wp2;go_ret;exact⟨_,by first|rfl|(simp [errW_none,errW_some] <;> rfl)|(simp [*,errW_none,errW_some] <;> rfl),by (with_reducible repeat(first|apply Kd.R_alloc|apply Kd.R_drewN|apply Kd.R_drew));exact HO_3.1,by repeat(first|(with_reducible first|exact HB.1|apply below_alloc|apply pw_below_drewN|apply below_drew1)|exact HB.1)⟩
      · rw [if_neg c5] at H
        exact absurd H (by simp)
    · rw [if_neg c3] at H
      exact absurd H (by simp)
  · rw [if_neg c2] at H
    exact absurd H (by simp)

/-! ### spec_l06Table: function 93 -/
mutual
def spec_l06Table.l0:Nat→Int→Int→List Int→List (List Int)→Int→Option ((List (List Int)))
  |0,_,_,_,_,_=>none
  |k+1,x0,x1,x5,x6,x7=>if x7<x1 then (if 0≤x1 then (if (x1:Int).toNat≤35184372088832 then (if x6.length<5864062014805 then (spec_l06Table.l0 k x0 x1 x5 (x6 ++ [(List.replicate (x1:Int).toNat 0)]) (wrap64 (x7+1))) else (none)) else (none)) else (none)) else (spec_l06Table.l1 k x0 x1 x5 x6 1)
def spec_l06Table.l1:Nat→Int→Int→List Int→List (List Int)→Int→Option ((List (List Int)))
  |0,_,_,_,_,_=>none
  |k+1,x0,x1,x5,x6,x8=>if x8<(wrap64 (x0 - 1)) then (if 0≤x8 then (if x8<(x5.length:Int) then (if x1=0 then (none) else (if 0≤(Int.tmod (rd x5 x8) x1) then (if (Int.tmod (rd x5 x8) x1)<(x6.length:Int) then (if 0≤(wrap64 (x8+1)) then (if (wrap64 (x8+1))<(x5.length:Int) then (if 0≤(Int.tmod (rd x5 (wrap64 (x8+1))) x1) then (if (Int.tmod (rd x5 (wrap64 (x8+1))) x1)<((rd_L1 x6 (Int.tmod (rd x5 x8) x1)).length:Int) then (spec_l06Table.l1 k x0 x1 x5 (x6.set ((Int.tmod (rd x5 x8) x1):Int).toNat ((rd_L1 x6 (Int.tmod (rd x5 x8) x1)).set ((Int.tmod (rd x5 (wrap64 (x8+1))) x1):Int).toNat (wrap64 ((rd (rd_L1 x6 (Int.tmod (rd x5 x8) x1)) (Int.tmod (rd x5 (wrap64 (x8+1))) x1))+1)))) (wrap64 (x8+1))) else (none)) else (none)) else (none)) else (none)) else (none)) else (none))) else (none)) else (none)) else (some x6)
end
def spec_l06Table.f (k:Nat) (a0:Int) (a1:Int):Option ((List (List Int))):=(spec_l06Indices.f k a0).bind fun t122=>(spec_l06Table.l0 k a0 a1 t122 (([]:List (List Int))) 0)
theorem spec_l06Table.mono_l:∀k,(∀y0 y1 y2 y3 y4,LeO (spec_l06Table.l0 k y0 y1 y2 y3 y4) (spec_l06Table.l0 (k+1) y0 y1 y2 y3 y4))∧(∀y0 y1 y2 y3 y4,LeO (spec_l06Table.l1 k y0 y1 y2 y3 y4) (spec_l06Table.l1 (k+1) y0 y1 y2 y3 y4))
  |0=>⟨fun _ _ _ _ _ r h=>by simp [spec_l06Table.l0] at h,fun _ _ _ _ _ r h=>by simp [spec_l06Table.l1] at h⟩
  |k+1=>by
    obtain⟨ih0,ih1⟩:=spec_l06Table.mono_l k;refine⟨?_,?_⟩
    · intro y0 y1 y2 y3 y4
      unfold spec_l06Table.l0;repeat' first
      |(with_reducible exact ih0 _ _ _ _ _)
      |(with_reducible exact ih1 _ _ _ _ _)
      |(with_reducible exact spec_l06Indices.mono _ _)
      |(with_reducible exact LeO.refl _)
      |(with_reducible exact LeO.none _)
      |(with_reducible refine LeO.ite ?_ ?_)
      |(with_reducible refine LeO.bind ?_ (fun _=>?_))
      |exact ih0 _ _ _ _ _
      |exact ih1 _ _ _ _ _
      |exact spec_l06Indices.mono _ _
      |exact LeO.none _
      |refine LeO.ite ?_ ?_
      |refine LeO.bind ?_ (fun _=>?_)
    · intro y0 y1 y2 y3 y4
      unfold spec_l06Table.l1;repeat' first
      |(with_reducible exact ih0 _ _ _ _ _)
      |(with_reducible exact ih1 _ _ _ _ _)
      |(with_reducible exact spec_l06Indices.mono _ _)
      |(with_reducible exact LeO.refl _)
      |(with_reducible exact LeO.none _)
      |(with_reducible refine LeO.ite ?_ ?_)
      |(with_reducible refine LeO.bind ?_ (fun _=>?_))
      |exact ih0 _ _ _ _ _
      |exact ih1 _ _ _ _ _
      |exact spec_l06Indices.mono _ _
      |exact LeO.none _
      |refine LeO.ite ?_ ?_
      |refine LeO.bind ?_ (fun _=>?_)
theorem spec_l06Table.mono:∀a0 a1 k,LeO (spec_l06Table.f k a0 a1) (spec_l06Table.f (k+1) a0 a1):=by
  intro a0 a1 k;obtain⟨ih0,ih1⟩:=spec_l06Table.mono_l k;unfold spec_l06Table.f;repeat' first
      |(with_reducible exact ih0 _ _ _ _ _)
      |(with_reducible exact ih1 _ _ _ _ _)
      |(with_reducible exact spec_l06Indices.mono _ _)
      |(with_reducible exact LeO.refl _)
      |(with_reducible exact LeO.none _)
      |(with_reducible refine LeO.ite ?_ ?_)
      |(with_reducible refine LeO.bind ?_ (fun _=>?_))
      |exact ih0 _ _ _ _ _
      |exact ih1 _ _ _ _ _
      |exact spec_l06Indices.mono _ _
      |exact LeO.none _
      |refine LeO.ite ?_ ?_
      |refine LeO.bind ?_ (fun _=>?_)
set_option maxHeartbeats 8000000 in
set_option maxRecDepth 100000 in
theorem spec_l06Table.calls (k:Nat) (a0:Int) (a1:Int) (r:List (List Int)) (w:World) (h:spec_l06Table.f k a0 a1=some r):
    Calls Try.prog 93 #[.int .i64 a0,.int .i64 a1] w fun e w'=>∃v0_:Value,e=.returned (v0_)∧Kd.S (Kd.slice 2 (Kd.int .i64)) 22 w' w.heap.size (fun _=>True) v0_ r∧Below w.heap.size w w':=by
  have HB:=qAm (Below.refl w.heap.size w);have H:((spec_l06Indices.f k a0).bind fun t122=>(spec_l06Table.l0 k a0 a1 t122 (([]:List (List Int))) 0))=some r:=h;clear h;replace H:=qOb H;obtain⟨t122,A30,H⟩:=H;replace H:(spec_l06Table.l0 k a0 a1 t122 (([]:List (List Int))) 0)=some r:=H;have A3:=qAm A30;clear A30;obtain⟨y125,hy125⟩:∃y_:List (List Int),y_=(([]:List (List Int))):=⟨_,rfl⟩
  replace H:(spec_l06Table.l0 k a0 a1 t122 y125 0)=some r:=by first|(rw [hy125];with_reducible exact H)|(have H2_:=(Option.bind_some _ _).symm.trans H;rw [hy125];with_reducible exact H2_)|(have H2_:=(Option.bind_some _ _).symm.trans H;with_reducible exact H2_)|with_reducible exact H|(rw [hy125];exact H)|exact H
  have Ny125:=qAm hy125;clear hy125;have H':=qAm H;clear H;go_enter Try.func93,Try.ntmps93;go_wp2_with (first|((with_reducible refine gate_callee (f:=95) rfl ?_);refine goesL_ (some 11) rfl rfl Try.func95 (by kernel_rfl) rfl #[.int .i64 a0] rfl qB15 ?_;(with_reducible refine(spec_l06Indices.calls k a0 t122 _ A3.1).mono ?_);rintro e w4 ⟨v123,rfl,ho0,hb⟩;refine⟨_,rfl,?_⟩;have n0_:=qAm (Kd.R_lower ho0 (below_size qB19));have n1_:=qAm (below_step qB19 hb);clear HB;have HO124:=n0_;have HB:=n1_;clear n0_ n1_;(try clear hb);(try clear hb2);(try clear hk);(try clear hi);(try clear ho0))|((with_reducible refine gate_dst (N:=12) rfl ?_);refine Kd.S_lit (Kd.slice 2 (Kd.int .i64)) _ 22 ?hg (N:=12) ?hd (xs:=([]:List (List Int))) (inner:=[]) (ok:=fun _=>True) (okp:=fun _=>True) ?hr ?hp (fun _ hk=>hk) trivial (Below.refl _ _) (Nat.le_refl _) (by simp) ?_;(case hd=>rfl);(case hg=>rfl);(case hr=>first|(go_simp;done)|(go_simp;rfl));(case hp=>exact(Reps.none _ _));intro v126 w5 ho6 hb hg_ hnew_;clear hg_ hnew_;(first|rw [← Ny125.1] at ho6|(simp only [Int.reduceToNat] at ho6;rw [← Ny125.1] at ho6));have n0_:=qAm (Kd.R_below qB25 hb);have n1_:=qAm (Kd.S_lower (Kd.S_new' ho6 (Kd.R_lt qB25)) (below_size qB19));have n2_:=qAm (below_step qB19 hb);clear HO124;clear HB;have HO124:=n0_;have HO127:=n1_;have HB:=n2_;clear n0_ n1_ n2_;clear hb ho6));try simp only [Act.put,qSa,qSc,qSb]
  go_loopg [6,7] k (fun kq v6 v7 w'=>∃(x6_1:List (List Int)) (x7_1:Int),v7=.int .i64 x7_1∧Aside0 (spec_l06Table.l0 kq a0 a1 t122 x6_1 x7_1=some r)∧Aside0 (kq≤k)∧Aside0 (Kd.R (Kd.int .i64) 2 w' w.heap.size (fun _=>True) v123 t122)∧Aside0 (Kd.S (Kd.slice 2 (Kd.int .i64)) 22 w' w.heap.size (fun k_=>some k_≠(v123:Value).ownBlock) v6 x6_1)∧Aside0 (Below w.heap.size w w'))
  case atStart=>exact⟨(y125),(0),qB47,H',⟨Nat.le_refl _⟩,⟨by (with_reducible repeat(first|apply Kd.R_alloc|apply Kd.R_drewN|apply Kd.R_drew));exact HO124.1⟩,⟨by (with_reducible repeat(first|apply Kd.S_alloc|apply Kd.S_drewN|apply Kd.S_drew));exact Kd.S_mono HO127.1 (fun _ hk=>hk.2)⟩,⟨by repeat(first|(with_reducible first|exact HB.1|apply below_alloc|apply pw_below_drewN|apply below_drew1)|exact HB.1)⟩⟩
  case round=>
    clear H';try clear p2
    obtain⟨x6_1,x7_1,rfl,HA,HK1,HO_5,HO_6,HB⟩:=hrel;cases gk with
    |zero=>exact absurd HA.1 (by simp [spec_l06Table.l0])
    |succ k1=>
      have H:=HA.1;clear HA;simp only [spec_l06Table.l0] at H
      by_cases c7:x7_1<a1
      · rw [if_pos c7] at H
        have c7b0:decide (x7_1<a1)=true:=decide_eq_true c7;clear c7
        by_cases c8:0≤a1
        · rw [if_pos c8] at H
          have c8b0:=eq_true c8;have c8b1:decide (0≤a1)=true:=decide_eq_true c8;clear c8
          by_cases c9:(a1:Int).toNat≤35184372088832
          · rw [if_pos c9] at H
            have c9b0:=eq_true c9;have c9b1:decide ((a1:Int).toNat≤35184372088832)=true:=decide_eq_true c9;clear c9;obtain⟨y128,hy128⟩:∃y_:List Int,y_=(List.replicate (a1:Int).toNat 0):=⟨_,rfl⟩
            replace H:(if x6_1.length<5864062014805 then (spec_l06Table.l0 k1 a0 a1 t122 (x6_1 ++ [y128]) (wrap64 (x7_1+1))) else (none))=some r:=by first|(rw [hy128];with_reducible exact H)|(have H2_:=(Option.bind_some _ _).symm.trans H;rw [hy128];with_reducible exact H2_)|(have H2_:=(Option.bind_some _ _).symm.trans H;with_reducible exact H2_)|with_reducible exact H|(rw [hy128];exact H)|exact H
            have Ny128:=qAm hy128;clear hy128
            by_cases c10:x6_1.length<5864062014805
            · rw [if_pos c10] at H
              have LMc10:=qAm c10;clear c10;obtain⟨y131,hy131⟩:∃y_:List (List Int),y_=(x6_1 ++ [y128]):=⟨_,rfl⟩
              replace H:(spec_l06Table.l0 k1 a0 a1 t122 y131 (wrap64 (x7_1+1)))=some r:=by first|(rw [hy131];with_reducible exact H)|(have H2_:=(Option.bind_some _ _).symm.trans H;rw [hy131];with_reducible exact H2_)|(have H2_:=(Option.bind_some _ _).symm.trans H;with_reducible exact H2_)|with_reducible exact H|(rw [hy131];exact H)|exact H
              have Ny131:=qAm hy131;clear hy131;have H':=qAm H;clear H;go_wp2_with (first|((with_reducible refine gate_dst (N:=20) rfl ?_);refine Kd.R_make (Kd.int .i64) _ 2 rfl (N:=20) rfl 22 _ _ rfl a1 rfl rfl Try.underlying22 (.int .i64 0) 8 info2 rfl (by decide) (by omega) 0 (ok:=fun _=>True) (okp:=fun _=>True) rfl (fun _ hk=>hk) trivial (of_decide_eq_true qB46) (Nat.le_trans (Nat.mul_le_mul_right _ (of_decide_eq_true qB46:a1.toNat≤35184372088832)) (by omega)) (Below.refl _ _) (Nat.le_refl _) ?_;intro v129 w11 ho12 hb hg_ hnew_;clear hg_ hnew_;(first|rw [← Ny128.1] at ho12|(simp only [Int.reduceToNat] at ho12;rw [← Ny128.1] at ho12));have n0_:=qAm (Kd.R_elder' qB41 (Kd.R_base ho12) hb);have n1_:=qAm (Kd.S_elder' qB42 (Kd.R_base ho12) hb);have n2_:=qAm (Kd.R_lower (Kd.R_new' ho12 (Kd.R_lt qB41)) (below_size qB19));have n3_:=qAm (below_step qB19 hb);clear HO_5;clear HO_6;clear HB;have HO_5:=n0_;have HO_6:=n1_;have HO130:=n2_;have HB:=n3_;clear n0_ n1_ n2_ n3_;clear hb ho12;obtain⟨Ao14,co14,eo14⟩:=Kd.R_slice HO130.1;subst eo14)|((with_reducible refine gate_builtin (b:=.append) (xs:=#[.tmp 18,.tmp 21]) rfl ?_);at_builtin;refine Kd.S_append (Kd.slice 2 (Kd.int .i64)) (w0:=w) w.heap.size rfl (.tmp 18) (.tmp 21) 57 22 (.slice none 0 0) 24 rfl Try.underlying57 info22 rfl (by decide) (by omega) u6 x6_1 y128 [.slice Ao14 y128.length co14] (fun k_=>some k_≠(v123:Value).ownBlock) (fun k_=>some k_=(.slice Ao14 y128.length co14:Value).ownBlock) rfl rfl ?aP (fun k_ hk_=>((Kd.R_mono (ok':=fun k_=>((fun k_=>some k_≠(v123:Value).ownBlock)) k_∧some k_≠(u6:Value).ownBlock) (Kd.R_apart' (HO130.1) (Kd.S_typed HO_6.1) (by decide)) (fun k_ hk=>⟨hk.1.2,hk.2⟩))).1 k_ hk_.symm) ?aF ?aO ?aB ?aS ?aL ?_;(case aP=>exact Kd.M_row (Kd.R_mono (Kd.R_tight rfl (Kd.R_mono (ok':=fun k_=>((fun k_=>some k_≠(v123:Value).ownBlock)) k_∧some k_≠(u6:Value).ownBlock) (Kd.R_apart' (HO130.1) (Kd.S_typed HO_6.1) (by decide)) (fun k_ hk=>⟨hk.1.2,hk.2⟩))) (fun _ h_=>h_)));(case aB=>exact qB19);(case aF=>exact(fun k_ hk=>Kd.fresh' (Kd.R_lt qB41) k_ hk));(case aO=>exact(by (with_reducible repeat(first|apply Kd.S_alloc|apply Kd.S_drewN|apply Kd.S_drew));exact Kd.S_mono HO_6.1 (fun k_ hk=>⟨hk.1,fun e_=>hk.2 e_⟩)));(case aS=>exact(below_size qB19));(case aL=>have:=LMc10.1;omega);intro v132 w13 ho hb hg hat;rw [← Ny131.1] at ho;have n0_:=qAm (Kd.R_over' qB41 (Kd.S_typed qB42) (by decide) hg);have n1_:=qAm (hb);have n2_:=qAm (ho);clear HO_5;clear HB;clear HO_6;clear HO130;have HO_5:=n0_;have HB:=n1_;have HO133:=n2_;clear n0_ n1_ n2_;clear ho hb hg hat))
              (first|go_roundg k1|((try simp only [add_plain] at *);go_roundg k1))
              case measure=>have:=HK1.1;omega
              case rel=>exact⟨(y131),(wrap64 (x7_1+1)),qB47,H',⟨by have:=HK1.1;omega⟩,⟨by (with_reducible repeat(first|apply Kd.R_alloc|apply Kd.R_drewN|apply Kd.R_drew));exact Kd.R_mono HO_5.1 (fun _ hk=>trivial)⟩,⟨by (with_reducible repeat(first|apply Kd.S_alloc|apply Kd.S_drewN|apply Kd.S_drew));exact HO133.1⟩,⟨by repeat(first|(with_reducible first|exact HB.1|apply below_alloc|apply pw_below_drewN|apply below_drew1)|exact HB.1)⟩⟩
            · rw [if_neg c10] at H
              exact absurd H (by simp)
          · rw [if_neg c9] at H
            exact absurd H (by simp)
        · rw [if_neg c8] at H
          exact absurd H (by simp)
      · rw [if_neg c7] at H
        have c7b0:decide (x7_1<a1)=false:=decide_eq_false c7;clear c7;have H':=qAm H;clear H;go_wp2;try simp only [Act.put,qSa,qSc,qSb]
        go_loopg [8] k1 (fun kq v8 w'=>∃(x5_2:List Int) (x6_2:List (List Int)) (x8_2:Int),v8=.int .i64 x8_2∧Aside0 (spec_l06Table.l1 kq a0 a1 x5_2 x6_2 x8_2=some r)∧Aside0 (kq≤k1)∧Aside0 (Kd.R (Kd.int .i64) 2 w' w.heap.size (fun _=>True) v123 x5_2)∧Aside0 (Kd.S (Kd.slice 2 (Kd.int .i64)) 22 w' w.heap.size (fun k_=>some k_≠(v123:Value).ownBlock) u6 x6_2)∧Aside0 (Below w.heap.size w w'))
        case atStart=>exact⟨(t122),(x6_1),(1),qB47,H',⟨Nat.le_refl _⟩,⟨by (with_reducible repeat(first|apply Kd.R_alloc|apply Kd.R_drewN|apply Kd.R_drew));exact HO_5.1⟩,⟨by (with_reducible repeat(first|apply Kd.S_alloc|apply Kd.S_drewN|apply Kd.S_drew));exact HO_6.1⟩,⟨by repeat(first|(with_reducible first|exact HB.1|apply below_alloc|apply pw_below_drewN|apply below_drew1)|exact HB.1)⟩⟩
        case round=>
          clear H';try clear c1
          try clear p2
          try clear p6
          try clear c7
          try clear c7b0
          try clear c8
          try clear c8b0
          try clear c8b1
          try clear c9
          try clear c9b0
          try clear c9b1
          try clear c10
          try clear p2
          obtain⟨x5_2,x6_2,x8_2,rfl,HA,HK2,HO_5,HO_6,HB⟩:=hrel;cases gk with
          |zero=>exact absurd HA.1 (by simp [spec_l06Table.l1])
          |succ k2=>
            have H:=HA.1;clear HA;simp only [spec_l06Table.l1] at H
            by_cases c15:x8_2<(wrap64 (a0 - 1))
            · rw [if_pos c15] at H
              have c15b0:decide (x8_2<(wrap64 (a0 - 1)))=true:=decide_eq_true c15;clear c15
              by_cases c16:0≤x8_2
              · rw [if_pos c16] at H
                have c16b0:decide (0≤x8_2)=true:=decide_eq_true c16;clear c16
                by_cases c17:x8_2<(x5_2.length:Int)
                · rw [if_pos c17] at H
                  have c17b0:decide (x8_2<(x5_2.length:Int))=true:=decide_eq_true c17;clear c17
                  by_cases c18:a1=0
                  · rw [if_pos c18] at H
                    exact absurd H (by simp)
                  · rw [if_neg c18] at H
                    have c18b0:(a1==0)=false:=beq_eq_false_iff_ne.mpr c18;have c18b1:(a1 !=0)=true:=bne_iff_ne.mpr c18;obtain⟨ji19,hji19⟩:∃j_:Int,(Int.tmod (rd x5_2 x8_2) a1)=j_:=⟨_,rfl⟩
                    replace H:(if 0≤(ji19) then (if (ji19)<(x6_2.length:Int) then (if 0≤(wrap64 (x8_2+1)) then (if (wrap64 (x8_2+1))<(x5_2.length:Int) then (if 0≤(Int.tmod (rd x5_2 (wrap64 (x8_2+1))) a1) then (if (Int.tmod (rd x5_2 (wrap64 (x8_2+1))) a1)<((rd_L1 x6_2 (ji19)).length:Int) then (spec_l06Table.l1 k2 a0 a1 x5_2 (x6_2.set ((ji19):Int).toNat ((rd_L1 x6_2 (ji19)).set ((Int.tmod (rd x5_2 (wrap64 (x8_2+1))) a1):Int).toNat (wrap64 ((rd (rd_L1 x6_2 (ji19)) (Int.tmod (rd x5_2 (wrap64 (x8_2+1))) a1))+1)))) (wrap64 (x8_2+1))) else (none)) else (none)) else (none)) else (none)) else (none)) else (none))=some r:=by first|(rw [hji19] at H;exact H)|(simp only [hji19] at H ⊢;exact H)
                    by_cases c20:0≤(ji19)
                    · rw [if_pos c20] at H
                      have c20b0:decide (0≤(ji19))=true:=decide_eq_true c20;clear c20
                      by_cases c21:(ji19)<(x6_2.length:Int)
                      · rw [if_pos c21] at H
                        have c21b0:decide ((ji19)<(x6_2.length:Int))=true:=decide_eq_true c21;clear c21;obtain⟨ji22,hji22⟩:∃j_:Int,(wrap64 (x8_2+1))=j_:=⟨_,rfl⟩
                        replace H:(if 0≤(ji22) then (if (ji22)<(x5_2.length:Int) then (if 0≤(Int.tmod (rd x5_2 (ji22)) a1) then (if (Int.tmod (rd x5_2 (ji22)) a1)<((rd_L1 x6_2 (ji19)).length:Int) then (spec_l06Table.l1 k2 a0 a1 x5_2 (x6_2.set ((ji19):Int).toNat ((rd_L1 x6_2 (ji19)).set ((Int.tmod (rd x5_2 (ji22)) a1):Int).toNat (wrap64 ((rd (rd_L1 x6_2 (ji19)) (Int.tmod (rd x5_2 (ji22)) a1))+1)))) ji22) else (none)) else (none)) else (none)) else (none))=some r:=by first|(rw [hji22] at H;exact H)|(simp only [hji22] at H ⊢;exact H)
                        have hji22w:(IntKind.i64.wrap (x8_2+1))=ji22:=(i64_w _).trans hji22
                        by_cases c23:0≤(ji22)
                        · rw [if_pos c23] at H
                          have c23b0:decide (0≤(ji22))=true:=decide_eq_true c23;clear c23
                          by_cases c24:(ji22)<(x5_2.length:Int)
                          · rw [if_pos c24] at H
                            have c24b0:decide ((ji22)<(x5_2.length:Int))=true:=decide_eq_true c24;clear c24;obtain⟨ji25,hji25⟩:∃j_:Int,(Int.tmod (rd x5_2 (ji22)) a1)=j_:=⟨_,rfl⟩
                            replace H:(if 0≤(ji25) then (if (ji25)<((rd_L1 x6_2 (ji19)).length:Int) then (spec_l06Table.l1 k2 a0 a1 x5_2 (x6_2.set ((ji19):Int).toNat ((rd_L1 x6_2 (ji19)).set ((ji25):Int).toNat (wrap64 ((rd (rd_L1 x6_2 (ji19)) (ji25))+1)))) ji22) else (none)) else (none))=some r:=by first|(rw [hji25] at H;exact H)|(simp only [hji25] at H ⊢;exact H)
                            by_cases c26:0≤(ji25)
                            · rw [if_pos c26] at H
                              have c26b0:decide (0≤(ji25))=true:=decide_eq_true c26;clear c26
                              by_cases c27:(ji25)<((rd_L1 x6_2 (ji19)).length:Int)
                              · rw [if_pos c27] at H
                                have c27b0:decide ((ji25)<((rd_L1 x6_2 (ji19)).length:Int))=true:=decide_eq_true c27;clear c27;obtain⟨y138,hy138⟩:∃y_:List Int,y_=((rd_L1 x6_2 (ji19)).set ((ji25):Int).toNat (wrap64 ((rd (rd_L1 x6_2 (ji19)) (ji25))+1))):=⟨_,rfl⟩
                                replace H:(spec_l06Table.l1 k2 a0 a1 x5_2 (x6_2.set ((ji19):Int).toNat y138) ji22)=some r:=by first|(rw [hy138];with_reducible exact H)|(have H2_:=(Option.bind_some _ _).symm.trans H;rw [hy138];with_reducible exact H2_)|(have H2_:=(Option.bind_some _ _).symm.trans H;with_reducible exact H2_)|with_reducible exact H|(rw [hy138];exact H)|exact H
                                have Ny138:=qAm hy138;clear hy138;obtain⟨y140,hy140⟩:∃y_:List (List Int),y_=(x6_2.set ((ji19):Int).toNat y138):=⟨_,rfl⟩
                                replace H:(spec_l06Table.l1 k2 a0 a1 x5_2 y140 ji22)=some r:=by first|(rw [hy140];with_reducible exact H)|(have H2_:=(Option.bind_some _ _).symm.trans H;rw [hy140];with_reducible exact H2_)|(have H2_:=(Option.bind_some _ _).symm.trans H;with_reducible exact H2_)|with_reducible exact H|(rw [hy140];exact H)|exact H
                                have Ny140:=qAm hy140;clear hy140;have H':=qAm H;clear H;obtain⟨Ao29,co29,eo29⟩:=Kd.R_slice HO_5.1;subst eo29;have p134:0≤(x8_2:Int):=of_decide_eq_true qB46;have q134:x8_2<(x5_2.length:Int):=of_decide_eq_true qB46;obtain⟨ad134,e134,hx134_0⟩:=Kd.at_int (Kd.R_reads' HO_5.1).2.2 x8_2 p134 q134;cases e134
                                replace p134:=eq_true p134;replace q134:=eq_true q134;obtain⟨Ao30,co30,eo30⟩:=Kd.S_slice HO_6.1;subst eo30;have p135:0≤((ji19):Int):=of_decide_eq_true qB46;have q135:(ji19)<(x6_2.length:Int):=of_decide_eq_true qB46;obtain⟨ad135,A135_0,c135_0,e135,hx135_0,hl135_0,hi135_0⟩:=at_L1 (Kd.S_reads' HO_6.1).2.2 (ji19) p135 q135;cases e135
                                obtain⟨ce135,hce135,hMe135,hcc135⟩:=Kd.S_get HO_6.1 [] (ji19) p135 (by first|exact q135|exact of_decide_eq_true qB46|(have e_:=(Kd.S_reads' HO_6.1).1;omega));obtain⟨ve135_0,rfl,ge135_0⟩:=hMe135;have hv135_0:=hcc135 0 _ rfl;rw [Nat.add_zero,show((Kd.slice 2 (Kd.int .i64))).sz=1 from rfl,Nat.mul_one] at hv135_0;replace hv135_0:=Option.some.inj (hv135_0.symm.trans hx135_0);rw [hv135_0] at ge135_0;have HL135_0:=qAm (show Kd.R (Kd.int .i64) 2 _ _ _ _ (rd_L1 x6_2 (ji19)) from ge135_0);clear hv135_0 ge135_0;have HX135_0:=qAm hx135_0;clear hcc135 hce135;have HR135_0:=qAm hi135_0;have HC135_0:=qAm hl135_0;clear hi135_0 hl135_0;replace p135:=eq_true p135;replace q135:=eq_true q135;have p136:0≤((ji22):Int):=of_decide_eq_true qB46;have q136:(ji22)<(x5_2.length:Int):=of_decide_eq_true qB46;obtain⟨ad136,e136,hx136_0⟩:=Kd.at_int (Kd.R_reads' HO_5.1).2.2 (ji22) p136 q136;obtain rfl:ad134=ad136:=(by injection e136)
                                replace p136:=eq_true p136;replace q136:=eq_true q136;have p137:0≤((ji25):Int):=of_decide_eq_true qB46;have q137:(ji25)<((rd_L1 x6_2 (ji19)).length:Int):=of_decide_eq_true qB46;obtain⟨ad137,e137,hx137_0⟩:=Kd.at_int (by repeat(first|(with_reducible exact HR135_0.1)|(with_reducible refine Kd.C_alloc ?_ _)|(with_reducible refine Kd.C_drewN ?_ _)|(with_reducible refine Kd.C_drew ?_)|exact HR135_0.1)) (ji25) p137 q137;cases e137
                                replace p137:=eq_true p137;replace q137:=eq_true q137;have p28:0≤((ji25):Int):=of_decide_eq_true qB46;have q28:((ji25):Int)<(((rd_L1 x6_2 (ji19)).length:Int):Int):=of_decide_eq_true qB46;obtain⟨go28,co28,eo28,gb28,gl28,cl28,HG28⟩:=Kd.R_form HL135_0.1 (by omega)
                                (first|cases eo28|(injection eo28 with ea_ en_ ec_;(first|subst ea_|(injection ea_ with ea_;subst ea_));subst ec_;clear en_))
                                have GB28:=qAm gb28;have GG28:=qAm HG28;clear gb28 gl28 HG28
                                (first|simp only [add_plain] at hx137_0|skip)
                                obtain⟨hx28_0,hf28_0⟩:=Kd.R_celln 0 HL135_0.1 ((ji25):Int) p28 q28;replace p28:=eq_true p28;replace q28:=eq_true q28;have hq31:((ji19):Int)<(x6_2.length:Int):=(by have h_:((ji19):Int)<((x6_2.length:Int):Int):=of_decide_eq_true qB46;first|exact h_|(have e_:=(Kd.S_reads' HO_6.1).1;omega)|simpa only [List.length_set,List.length_set] using h_)
                                obtain⟨oki31,ce31,hcl31,hM31,hcc31,hok31,hbk31⟩:=Kd.S_borrow HO_6.1 [] ((ji19):Int) (of_decide_eq_true qB46) hq31;obtain⟨ve31_0,rfl,ge31_0⟩:=hM31;have hv31:=hcc31 0 _ rfl;rw [Nat.add_zero,show((Kd.slice 2 (Kd.int .i64))).sz=1 from rfl,Nat.mul_one] at hv31;replace hv31:=Option.some.inj (hv31.symm.trans HX135_0.1);subst hv31;clear hcc31 hcl31;replace ge31_0:=(show Kd.R (Kd.int .i64) 2 _ _ _ _ (rd_L1 x6_2 (ji19)) from ge31_0)
                                have HP31:=Kd.R_putg ge31_0 ((ji25):Int) (wrap64 ((rd (rd_L1 x6_2 (ji19)) (ji25))+1));go_wp2_with (first|((with_reducible refine gate_store (t:=2) (p:=49) rfl ?_);refine store_event (t:=2) (p:=49) (v:=?vo_w32) (w1:=(wr.setCell ⟨go28,((ji25):Int).toNat,none⟩ (.int .i64 (wrap64 ((rd (rd_L1 x6_2 (ji19)) (ji25))+1))))) ?hg ?ho ?hn ?hr ?_;(case ho=>rfl);(case hg=>rfl);(case hn=>rfl);(case hr=>first|(go_simp;done)|(go_simp;rfl));intro w32 hw;have hg:wr.grownBy w32 (some go28):=(by rw [hw];exact HP31.2);have hz_:Kd.R (Kd.int .i64) 2 w32 w.heap.size oki31 (.slice (some ⟨go28,0,none⟩) (rd_L1 x6_2 (ji19)).length c135_0) y138:=(by rw [hw,Ny138.1];exact HP31.1);have hp_:Kd.S (Kd.slice 2 (Kd.int .i64)) 22 w32 w.heap.size (fun k_=>some k_≠(.slice (some ad134) x5_2.length co29:Value).ownBlock) (.slice (some ad135) x6_2.length co30) y140:=(by rw [Ny140.1];exact hbk31 hg (fun k_ e_=>by injection e_ with e_;subst e_;exact ge31_0.1 _ rfl) (Kd.M_row hz_));have hm_:=Kd.R_mono hz_ hok31;clear HP31 hbk31;have n0_:=qAm (Kd.R_grown1 qB41 rfl hg ((HL135_0.1.1 _ rfl).1));have n1_:=qAm (hp_);have n2_:=qAm ((by rw [hw];exact below_set (HB.1) GB28.1:Below w.heap.size w w32));have n3_:=qAm (hm_);have n4_:=qAm ((Kd.R_reads' hm_).2.1);clear HO_5;clear HO_6;clear HB;clear HL135_0;have HO_5:=n0_;have HO_6:=n1_;have HB:=n2_;have HL141:=n3_;have HC139:=n4_;clear n0_ n1_ n2_ n3_ n4_;clear hg hw hp_ hz_ hm_ hok31))
                                (first|go_roundg k2|((try simp only [add_plain] at *);go_roundg k2))
                                case measure=>have:=HK1.1;have:=HK2.1;omega
                                case rel=>exact⟨(x5_2),(y140),(ji22),(by first|rfl|(simp;done)|(simp only [← hji22] <;> (first|rfl|simp))|(simp [*];done)),H',⟨by have:=HK1.1;have:=HK2.1;omega⟩,⟨by (with_reducible repeat(first|apply Kd.R_alloc|apply Kd.R_drewN|apply Kd.R_drew));exact HO_5.1⟩,⟨by (with_reducible repeat(first|apply Kd.S_alloc|apply Kd.S_drewN|apply Kd.S_drew));exact HO_6.1⟩,⟨by repeat(first|(with_reducible first|exact HB.1|apply below_alloc|apply pw_below_drewN|apply below_drew1)|exact HB.1)⟩⟩
                              · rw [if_neg c27] at H
                                exact absurd H (by simp)
                            · rw [if_neg c26] at H
                              exact absurd H (by simp)
                          · rw [if_neg c24] at H
                            exact absurd H (by simp)
                        · rw [if_neg c23] at H
                          exact absurd H (by simp)
                      · rw [if_neg c21] at H
                        exact absurd H (by simp)
                    · rw [if_neg c20] at H
                      exact absurd H (by simp)
                · rw [if_neg c17] at H
                  exact absurd H (by simp)
              · rw [if_neg c16] at H
                exact absurd H (by simp)
            · rw [if_neg c15] at H
              have c15b0:decide (x8_2<(wrap64 (a0 - 1)))=false:=decide_eq_false c15;clear c15;obtain rfl:=Option.some.inj H;go_wp2;go_ret;exact⟨_,by first|rfl|(simp [errW_none,errW_some] <;> rfl)|(simp [*,errW_none,errW_some] <;> rfl),by (with_reducible repeat(first|apply Kd.S_alloc|apply Kd.S_drewN|apply Kd.S_drew));exact Kd.S_mono HO_6.1 (fun _ hk=>trivial),by repeat(first|(with_reducible first|exact HB.1|apply below_alloc|apply pw_below_drewN|apply below_drew1)|exact HB.1)⟩

end Go.Proofs.Ytefhabkikaadiaa.PFnExactPeriodPolynomial
