/- The functions that the law reaches, as plain functions, each with the proof that the program comes to it; no condition. Written by a program of this session (wip/mp.py) over the printing of the kit; what is marked HAND is told by hand. -/
import Derived.Test.YtefhabkikaadiaaPFnPeriodsx0
import Derived.Test.YtefhabkikaadiaaPFnPeriodsx2
import Derived.Test.YtefhabkikaadiaaPFnPeriodsx4
import Derived.Test.YtefhabkikaadiaaPFnPeriodsx7
namespace Go.Proofs.Ytefhabkikaadiaa.PFnPeriods
open Go.RowKit Go.Proofs.YtefhabkikaadiaaW.PrintWords Go.Proofs.YtefhabkikaadiaaW.PrintLast Go.Proofs.YtefhabkikaadiaaW.PrintMore
attribute [local go_sem] max2_int min2_int max_two min_two max_three min_three max_four min_four   -- for this text's walks alone
set_option linter.unusedVariables false
set_option linter.unusedSimpArgs false

/-! ### spec_l06Differences: function 98 -/
mutual
def spec_l06Differences.l0:Nat→Int→Int→List Int→List Int→Int→Option (List Int)
  |0,_,_,_,_,_=>none
  |k+1,x0,x1,x5,x6,x7=>if x7<x0 then (spec_l06Differences.l1 k x0 x1 x5 x6 x7 1) else (spec_l06Differences.l2 k x0 x1 x6 0)
def spec_l06Differences.l1:Nat→Int→Int→List Int→List Int→Int→Int→Option (List Int)
  |0,_,_,_,_,_,_=>none
  |k+1,x0,x1,x5,x6,x7,x8=>if x8<x0 then (if x7=x8 then (spec_l06Differences.l1 k x0 x1 x5 x6 x7 (wrap64 (x8+1))) else (if 0≤x7 then (if x7<(x5.length:Int) then (if x1=0 then (none) else (if (Int.tmod (rd x5 x7) x1)=0 then (if 0≤x8 then (if x8<(x5.length:Int) then (if (Int.tmod (rd x5 x8) x1)=0 then (if x0=0 then (none) else (if 0≤(Int.tmod (wrap64 ((wrap64 (x7 - x8))+x0)) x0) then (if (Int.tmod (wrap64 ((wrap64 (x7 - x8))+x0)) x0)<(x5.length:Int) then (if 0≤(Int.tmod (rd x5 (Int.tmod (wrap64 ((wrap64 (x7 - x8))+x0)) x0)) x1) then (if (Int.tmod (rd x5 (Int.tmod (wrap64 ((wrap64 (x7 - x8))+x0)) x0)) x1)<(x6.length:Int) then (spec_l06Differences.l1 k x0 x1 x5 (x6.set ((Int.tmod (rd x5 (Int.tmod (wrap64 ((wrap64 (x7 - x8))+x0)) x0)) x1):Int).toNat (wrap64 ((rd x6 (Int.tmod (rd x5 (Int.tmod (wrap64 ((wrap64 (x7 - x8))+x0)) x0)) x1))+1))) x7 (wrap64 (x8+1))) else (none)) else (none)) else (none)) else (none))) else (spec_l06Differences.l1 k x0 x1 x5 x6 x7 (wrap64 (x8+1)))) else (none)) else (none)) else (spec_l06Differences.l1 k x0 x1 x5 x6 x7 (wrap64 (x8+1))))) else (none)) else (none))) else (spec_l06Differences.l0 k x0 x1 x5 x6 (wrap64 (x7+1)))
def spec_l06Differences.l2:Nat→Int→Int→List Int→Int→Option (List Int)
  |0,_,_,_,_=>none
  |k+1,x0,x1,x6,x9=>if x9<x1 then (if 0≤x9 then (if x9<(x6.length:Int) then (if x1=0 then (none) else (if (wrap64 (Int.tdiv (wrap64 (x0 - 1)) x1))=0 then (none) else (spec_l06Differences.l2 k x0 x1 (x6.set (x9:Int).toNat (wrap64 (Int.tdiv (rd x6 x9) (wrap64 (Int.tdiv (wrap64 (x0 - 1)) x1))))) (wrap64 (x9+1))))) else (none)) else (none)) else (some x6)
end
def spec_l06Differences.f (k:Nat) (a0:Int) (a1:Int):Option (List Int):=(spec_l06Indices.f k a0).bind fun t410=>(if 0≤a1 then (if (a1:Int).toNat≤35184372088832 then (spec_l06Differences.l0 k a0 a1 t410 (List.replicate (a1:Int).toNat 0) 1) else (none)) else (none))
theorem spec_l06Differences.mono_l:∀k,(∀y0 y1 y2 y3 y4,LeO (spec_l06Differences.l0 k y0 y1 y2 y3 y4) (spec_l06Differences.l0 (k+1) y0 y1 y2 y3 y4))∧(∀y0 y1 y2 y3 y4 y5,LeO (spec_l06Differences.l1 k y0 y1 y2 y3 y4 y5) (spec_l06Differences.l1 (k+1) y0 y1 y2 y3 y4 y5))∧(∀y0 y1 y2 y3,LeO (spec_l06Differences.l2 k y0 y1 y2 y3) (spec_l06Differences.l2 (k+1) y0 y1 y2 y3))
  |0=>⟨fun _ _ _ _ _ r h=>by simp [spec_l06Differences.l0] at h,fun _ _ _ _ _ _ r h=>by simp [spec_l06Differences.l1] at h,fun _ _ _ _ r h=>by simp [spec_l06Differences.l2] at h⟩
  |k+1=>by
    obtain⟨ih0,ih1,ih2⟩:=spec_l06Differences.mono_l k;refine⟨?_,?_,?_⟩
    · intro y0 y1 y2 y3 y4
      unfold spec_l06Differences.l0;repeat' first
      |(with_reducible exact ih0 _ _ _ _ _)
      |(with_reducible exact ih1 _ _ _ _ _ _)
      |(with_reducible exact ih2 _ _ _ _)
      |(with_reducible exact spec_l06Indices.mono _ _)
      |(with_reducible exact LeO.refl _)
      |(with_reducible exact LeO.none _)
      |(with_reducible refine LeO.ite ?_ ?_)
      |(with_reducible refine LeO.bind ?_ (fun _=>?_))
      |exact ih0 _ _ _ _ _
      |exact ih1 _ _ _ _ _ _
      |exact ih2 _ _ _ _
      |exact spec_l06Indices.mono _ _
      |exact LeO.none _
      |refine LeO.ite ?_ ?_
      |refine LeO.bind ?_ (fun _=>?_)
    · intro y0 y1 y2 y3 y4 y5
      unfold spec_l06Differences.l1;repeat' first
      |(with_reducible exact ih0 _ _ _ _ _)
      |(with_reducible exact ih1 _ _ _ _ _ _)
      |(with_reducible exact ih2 _ _ _ _)
      |(with_reducible exact spec_l06Indices.mono _ _)
      |(with_reducible exact LeO.refl _)
      |(with_reducible exact LeO.none _)
      |(with_reducible refine LeO.ite ?_ ?_)
      |(with_reducible refine LeO.bind ?_ (fun _=>?_))
      |exact ih0 _ _ _ _ _
      |exact ih1 _ _ _ _ _ _
      |exact ih2 _ _ _ _
      |exact spec_l06Indices.mono _ _
      |exact LeO.none _
      |refine LeO.ite ?_ ?_
      |refine LeO.bind ?_ (fun _=>?_)
    · intro y0 y1 y2 y3
      unfold spec_l06Differences.l2;repeat' first
      |(with_reducible exact ih0 _ _ _ _ _)
      |(with_reducible exact ih1 _ _ _ _ _ _)
      |(with_reducible exact ih2 _ _ _ _)
      |(with_reducible exact spec_l06Indices.mono _ _)
      |(with_reducible exact LeO.refl _)
      |(with_reducible exact LeO.none _)
      |(with_reducible refine LeO.ite ?_ ?_)
      |(with_reducible refine LeO.bind ?_ (fun _=>?_))
      |exact ih0 _ _ _ _ _
      |exact ih1 _ _ _ _ _ _
      |exact ih2 _ _ _ _
      |exact spec_l06Indices.mono _ _
      |exact LeO.none _
      |refine LeO.ite ?_ ?_
      |refine LeO.bind ?_ (fun _=>?_)
theorem spec_l06Differences.mono:∀a0 a1 k,LeO (spec_l06Differences.f k a0 a1) (spec_l06Differences.f (k+1) a0 a1):=by
  intro a0 a1 k;obtain⟨ih0,ih1,ih2⟩:=spec_l06Differences.mono_l k;unfold spec_l06Differences.f;repeat' first
      |(with_reducible exact ih0 _ _ _ _ _)
      |(with_reducible exact ih1 _ _ _ _ _ _)
      |(with_reducible exact ih2 _ _ _ _)
      |(with_reducible exact spec_l06Indices.mono _ _)
      |(with_reducible exact LeO.refl _)
      |(with_reducible exact LeO.none _)
      |(with_reducible refine LeO.ite ?_ ?_)
      |(with_reducible refine LeO.bind ?_ (fun _=>?_))
      |exact ih0 _ _ _ _ _
      |exact ih1 _ _ _ _ _ _
      |exact ih2 _ _ _ _
      |exact spec_l06Indices.mono _ _
      |exact LeO.none _
      |refine LeO.ite ?_ ?_
      |refine LeO.bind ?_ (fun _=>?_)
def spec_l06Differences.T13:Bool×List (List Nat×List Nat):=(true,[([],[]),([],[]),([],[]),([],[]),([2,3],[2,3]),([4],[4]),([],[]),([6],[6]),([],[]),([7,8],[7,8]),([5,9],[5,9]),([0,1,0,1,2,3,4,5,6,7,8,9,10],[0,1]),([11,10,0,1,2,3,4,5,6,7,8,9,10],[10,11])])
def spec_l06Differences.B13:List Nat:=[0,0,0,0,12,28,0,64,0,448,1020,2047,4095]
theorem spec_l06Differences.tab13:rtab .any (opsOf Try.f98 13)=spec_l06Differences.T13:=by kernel_rfl
theorem spec_l06Differences.bits13:waitsOk spec_l06Differences.T13.2 spec_l06Differences.B13=true:=by kernel_rfl
set_option maxHeartbeats 8000000 in
set_option maxRecDepth 100000 in
theorem spec_l06Differences.calls (k:Nat) (a0:Int) (a1:Int) (r:List Int) (w:World) (h:spec_l06Differences.f k a0 a1=some r):
    Calls Try.prog 98 #[.int .i64 a0,.int .i64 a1] w fun e w'=>∃v0_:Value,e=.returned (v0_)∧Kd.R (Kd.int .i64) 2 w' w.heap.size (fun _=>True) v0_ r∧Below w.heap.size w w':=by
  have HB:=qAm (Below.refl w.heap.size w);have H:((spec_l06Indices.f k a0).bind fun t410=>(if 0≤a1 then (if (a1:Int).toNat≤35184372088832 then (spec_l06Differences.l0 k a0 a1 t410 (List.replicate (a1:Int).toNat 0) 1) else (none)) else (none)))=some r:=h;clear h;replace H:=qOb H;obtain⟨t410,A30,H⟩:=H;replace H:(if 0≤a1 then (if (a1:Int).toNat≤35184372088832 then (spec_l06Differences.l0 k a0 a1 t410 (List.replicate (a1:Int).toNat 0) 1) else (none)) else (none))=some r:=H;have A3:=qAm A30;clear A30
  by_cases c4:0≤a1
  · rw [if_pos c4] at H
    have c4b0:=eq_true c4;have c4b1:decide (0≤a1)=true:=decide_eq_true c4;clear c4
    by_cases c5:(a1:Int).toNat≤35184372088832
    · rw [if_pos c5] at H
      have c5b0:=eq_true c5;have c5b1:decide ((a1:Int).toNat≤35184372088832)=true:=decide_eq_true c5;clear c5;obtain⟨y413,hy413⟩:∃y_:List Int,y_=(List.replicate (a1:Int).toNat 0):=⟨_,rfl⟩
      replace H:(spec_l06Differences.l0 k a0 a1 t410 y413 1)=some r:=by first|(rw [hy413];with_reducible exact H)|(have H2_:=(Option.bind_some _ _).symm.trans H;rw [hy413];with_reducible exact H2_)|(have H2_:=(Option.bind_some _ _).symm.trans H;with_reducible exact H2_)|with_reducible exact H|(rw [hy413];exact H)|exact H
      have Ny413:=qAm hy413;clear hy413;have H':=qAm H;clear H;go_enter Try.func98,Try.ntmps98;try go_wp2
      have n0_:=qAm (below_drew1 HB.1);clear HB;have HB:=n0_;clear n0_;refine start_ (n:=6) (S:=fun w'=>True) (ds:=[]) #[false,false,false,false,false,false] (by kernel_rfl) rfl rfl trivial (fun hHeld=>?_);generalize w.drew=w6 at HB hHeld ⊢;refine pure_ (i:=0) (N:=some 10) (v:=?_) (a':=?_) #[true,false,false,false,false,false] rfl rfl (by kernel_rfl) (fun _ _ _ h=>h) (Or.inl ⟨by rfl,?_⟩) ?_ ?_;rotate_left
      · intro w'
        go_simp;with_reducible rfl
      rotate_left
      · simp only [Act.put,qSa,qSb,qSc,i64_w,i32_w]
        rfl
      refine pure_ (i:=2) (N:=some 12) (v:=?_) (a':=?_) #[true,false,true,false,false,false] rfl rfl (by kernel_rfl) (fun _ _ _ h=>h) (Or.inl ⟨by rfl,?_⟩) ?_ ?_;rotate_left
      · intro w'
        go_simp;with_reducible rfl
      rotate_left
      · simp only [Act.put,qSa,qSb,qSc,i64_w,i32_w]
        rfl
      refine join_ (σ:=Value×Value) 1 #[true,true,true,true,true,false] (fun s_=>[(11,s_.1),(13,s_.2),(5,s_.1)]) (fun s_ w'=>(Kd.R (Kd.int .i64) 2 w' w.heap.size (fun k_=>some k_≠(s_.2:Value).ownBlock) s_.1 t410)∧(Kd.R (Kd.int .i64) 2 w' w.heap.size (fun k_=>some k_≠(s_.1:Value).ownBlock) s_.2 y413)∧(Below w.heap.size w w')) ?_ ?_;rotate_left
      · intro hCont
        refine two_ (i:=1) (j:=3) (Ni:=some 11) (Nj:=some 13) #[true,true,true,false,false,false] #[true,false,true,true,false,false] rfl rfl rfl rfl (by kernel_rfl) (by decide) (by decide) (fun K hK=>?_) (fun K hK=>?_)
        · skip
          refine goes_ Try.func95 (by kernel_rfl) rfl #[.int .i64 a0] (by rfl) rfl rfl qB19 ?_;with_reducible refine(spec_l06Indices.calls k a0 t410 _ A3.1).mono ?_
          rintro e w7 ⟨v411,rfl,ho0,hb⟩;refine⟨_,rfl,?_⟩;have n0_:=qAm (Kd.R_lower ho0 (below_size qB23));have n1_:=qAm (below_step qB23 hb);clear HB;have HO412:=n0_;have HB:=n1_;clear n0_ n1_
          (try clear hb)
          (try clear hb2)
          (try clear hk)
          (try clear hi)
          (try clear ho0)
          refine hK.out _ _ trivial (fun hHeld=>?_);clear hK K;refine norm_ (a':=?_) ?_ ?_;rotate_left
          · show Act.put _ (some 11) _=_
            simp only [Act.put,qSa,qSb,qSc,i64_w,i32_w];rfl
          refine pure_ (i:=4) (N:=some 5) (v:=?_) (a':=?_) #[true,true,true,false,true,false] rfl rfl (by kernel_rfl) (fun _ _ _ h=>h) (Or.inl ⟨by rfl,?_⟩) ?_ ?_;rotate_left
          · intro w'
            go_simp;with_reducible rfl
          rotate_left
          · simp only [Act.put,qSa,qSb,qSc,i64_w,i32_w]
            rfl
          refine one_ (i:=3) (N:=some 13) #[true,true,true,true,true,false] rfl rfl (by kernel_rfl) (by decide) (fun K hK=>?_);refine Kd.R_make_step (Kd.int .i64) _ 2 (by rfl) (N:=13) rfl 22 _ _ rfl a1 rfl rfl Try.underlying22 (.int .i64 0) 8 info2 rfl (by decide) (by omega) 0 (ok:=fun _=>True) (okp:=fun _=>True) rfl (fun _ hk=>hk) trivial (of_decide_eq_true qB56) (Nat.le_trans (Nat.mul_le_mul_right _ (of_decide_eq_true qB56:a1.toNat≤35184372088832)) (by omega)) (Below.refl _ _) (Nat.le_refl _) ?_;intro v414 w8 ho9 hb hg_ hnew_;clear hg_ hnew_
          (first|rw [← Ny413.1] at ho9|(simp only [Int.reduceToNat] at ho9;rw [← Ny413.1] at ho9))
          have n0_:=qAm (Kd.R_elder' qB41 (Kd.R_base ho9) hb);have n1_:=qAm (Kd.R_lower (Kd.R_new' ho9 (Kd.R_lt qB41)) (below_size qB23));have n2_:=qAm (below_step qB23 hb);clear HO412 HB;have HO412:=n0_;have HO415:=n1_;have HB:=n2_;clear n0_ n1_ n2_ hb ho9;refine hK.out _ _ trivial (fun hHeld=>?_);clear hK K;refine norm_ (a':=?_) ?_ ?_;rotate_left
          · show Act.put _ (some 13) _=_
            simp only [Act.put,qSa,qSb,qSc,i64_w,i32_w];rfl
          exact norm_ qB53 (hCont (v411,v414) _ ⟨qB21,qB22,qB23⟩)
        · skip
          refine Kd.R_make_step (Kd.int .i64) _ 2 (by rfl) (N:=13) rfl 22 _ _ rfl a1 rfl rfl Try.underlying22 (.int .i64 0) 8 info2 rfl (by decide) (by omega) 0 (ok:=fun _=>True) (okp:=fun _=>True) rfl (fun _ hk=>hk) trivial (of_decide_eq_true qB56) (Nat.le_trans (Nat.mul_le_mul_right _ (of_decide_eq_true qB56:a1.toNat≤35184372088832)) (by omega)) (Below.refl _ _) (Nat.le_refl _) ?_;intro v414 w7 ho8 hb hg_ hnew_;clear hg_ hnew_
          (first|rw [← Ny413.1] at ho8|(simp only [Int.reduceToNat] at ho8;rw [← Ny413.1] at ho8))
          have n0_:=qAm (Kd.R_lower ho8 (below_size qB23));have n1_:=qAm (below_step qB23 hb);clear HB;have HO415:=n0_;have HB:=n1_;clear n0_ n1_ hb ho8;refine hK.out _ _ trivial (fun hHeld=>?_);clear hK K;refine norm_ (a':=?_) ?_ ?_;rotate_left
          · show Act.put _ (some 13) _=_
            simp only [Act.put,qSa,qSb,qSc,i64_w,i32_w];rfl
          refine one_ (i:=1) (N:=some 11) #[true,true,true,true,false,false] rfl rfl (by kernel_rfl) (by decide) (fun K hK=>?_);refine goes_ Try.func95 (by kernel_rfl) rfl #[.int .i64 a0] (by rfl) rfl rfl qB19 ?_;with_reducible refine(spec_l06Indices.calls k a0 t410 _ A3.1).mono ?_
          rintro e w9 ⟨v411,rfl,ho0,hb⟩;refine⟨_,rfl,?_⟩;have n0_:=qAm (Kd.R_elder' qB42 (Kd.R_base ho0) hb);have n1_:=qAm (Kd.R_lower (Kd.R_new' ho0 (Kd.R_lt qB42)) (below_size qB23));have n2_:=qAm (below_step qB23 hb);clear HO415 HB;have HO415:=n0_;have HO412:=n1_;have HB:=n2_;clear n0_ n1_ n2_
          (try clear hb)
          (try clear hb2)
          (try clear hk)
          (try clear hi)
          (try clear ho0)
          refine hK.out _ _ trivial (fun hHeld=>?_);clear hK K;refine norm_ (a':=?_) ?_ ?_;rotate_left
          · show Act.put _ (some 11) _=_
            simp only [Act.put,qSa,qSb,qSc,i64_w,i32_w];rfl
          refine pure_ (i:=4) (N:=some 5) (v:=?_) (a':=?_) #[true,true,true,true,true,false] rfl rfl (by kernel_rfl) (fun _ _ _ h=>h) (Or.inl ⟨by rfl,?_⟩) ?_ ?_;rotate_left
          · intro w'
            go_simp;with_reducible rfl
          rotate_left
          · simp only [Act.put,qSa,qSb,qSc,i64_w,i32_w]
            rfl
          exact norm_ qB53 (hCont (v411,v414) _ ⟨qB21,qB22,qB23⟩)
      rintro⟨v411,v414⟩ w10 ⟨h0_,h1_,h2_⟩;have n0_:Aside0 (Kd.R (Kd.int .i64) 2 w10 w.heap.size (fun k_=>some k_≠(v414:Value).ownBlock) v411 t410):=⟨h0_⟩
      have n1_:Aside0 (Kd.R (Kd.int .i64) 2 w10 w.heap.size (fun k_=>some k_≠(v411:Value).ownBlock) v414 y413):=⟨h1_⟩
      have n2_:Aside0 (Below w.heap.size w w10):=⟨h2_⟩
      clear HB h0_ h1_ h2_;have HO412:=n0_;have HO415:=n1_;have HB:=n2_;clear n0_ n1_ n2_;have hHeld:=trivial;refine norm_ (a':=?_) ?_ ?_;rotate_left
      · simp only [putAll,Act.put,qSa,qSb,qSc]
        rfl
      refine pure_ (i:=5) (N:=some 6) (v:=?_) (a':=?_) #[true,true,true,true,true,true] rfl rfl (by kernel_rfl) (fun _ _ _ h=>h) (Or.inl ⟨by rfl,?_⟩) ?_ ?_;rotate_left
      · intro w'
        go_simp;with_reducible rfl
      rotate_left
      · simp only [Act.put,qSa,qSb,qSc,i64_w,i32_w]
        rfl
      refine done_ (by kernel_rfl) ?_;try go_wp2
      try simp only [Act.put,qSa,qSc,qSb]
      go_loopg [7] k (fun kq v7 w'=>∃(x6_1:List Int) (x7_1:Int),v7=.int .i64 x7_1∧Aside0 (spec_l06Differences.l0 kq a0 a1 t410 x6_1 x7_1=some r)∧Aside0 (kq≤k)∧Aside0 (Kd.R (Kd.int .i64) 2 w' w.heap.size (fun k_=>some k_≠(v414:Value).ownBlock) v411 t410)∧Aside0 (Kd.R (Kd.int .i64) 2 w' w.heap.size (fun k_=>some k_≠(v411:Value).ownBlock) v414 x6_1)∧Aside0 (Below w.heap.size w w'))
      case atStart=>exact⟨(y413),(1),qB57,H',⟨Nat.le_refl _⟩,⟨by (with_reducible repeat(first|apply Kd.R_alloc|apply Kd.R_drewN|apply Kd.R_drew));exact HO412.1⟩,⟨by (with_reducible repeat(first|apply Kd.R_alloc|apply Kd.R_drewN|apply Kd.R_drew));exact HO415.1⟩,⟨by repeat(first|(with_reducible first|exact HB.1|apply below_alloc|apply pw_below_drewN|apply below_drew1)|exact HB.1)⟩⟩
      case round=>
        clear H';try clear p2
        try clear c4
        try clear c4b0
        try clear c4b1
        try clear c5
        try clear c5b0
        try clear c5b1
        try clear c9
        obtain⟨x6_1,x7_1,rfl,HA,HK1,HO_5,HO_6,HB⟩:=hrel;cases gk with
        |zero=>exact absurd HA.1 (by simp [spec_l06Differences.l0])
        |succ k1=>
          have H:=HA.1;clear HA;simp only [spec_l06Differences.l0] at H
          by_cases c11:x7_1<a0
          · rw [if_pos c11] at H
            have c11b0:decide (x7_1<a0)=true:=decide_eq_true c11;clear c11;have H':=qAm H;clear H;go_wp2;try simp only [Act.put,qSa,qSc,qSb]
            go_loopg [8] k1 (fun kq v8 w'=>∃(x6_2:List Int) (x8_2:Int),v8=.int .i64 x8_2∧Aside0 (spec_l06Differences.l1 kq a0 a1 t410 x6_2 x7_1 x8_2=some r)∧Aside0 (kq≤k1)∧Aside0 (Kd.R (Kd.int .i64) 2 w' w.heap.size (fun k_=>some k_≠(v414:Value).ownBlock) v411 t410)∧Aside0 (Kd.R (Kd.int .i64) 2 w' w.heap.size (fun k_=>some k_≠(v411:Value).ownBlock) v414 x6_2)∧Aside0 (Below w.heap.size w w'))
            case atStart=>exact⟨(x6_1),(1),qB57,H',⟨Nat.le_refl _⟩,⟨by (with_reducible repeat(first|apply Kd.R_alloc|apply Kd.R_drewN|apply Kd.R_drew));exact HO_5.1⟩,⟨by (with_reducible repeat(first|apply Kd.R_alloc|apply Kd.R_drewN|apply Kd.R_drew));exact HO_6.1⟩,⟨by repeat(first|(with_reducible first|exact HB.1|apply below_alloc|apply pw_below_drewN|apply below_drew1)|exact HB.1)⟩⟩
            case round=>
              clear H';try clear c1
              try clear p2
              try clear c4
              try clear c4b0
              try clear c4b1
              try clear c5
              try clear c5b0
              try clear c5b1
              try clear c9
              try clear c11
              try clear c11b0
              try clear p2
              obtain⟨x6_2,x8_2,rfl,HA,HK2,HO_5,HO_6,HB⟩:=hrel;cases gk with
              |zero=>exact absurd HA.1 (by simp [spec_l06Differences.l1])
              |succ k2=>
                have H:=HA.1;clear HA;simp only [spec_l06Differences.l1] at H
                by_cases c12:x8_2<a0
                · rw [if_pos c12] at H
                  have c12b0:decide (x8_2<a0)=true:=decide_eq_true c12;clear c12
                  by_cases c13:x7_1=x8_2
                  · rw [if_pos c13] at H
                    have c13b0:(x7_1==x8_2)=true:=beq_iff_eq.mpr c13;have c13b1:(x7_1 !=x8_2)=false:=bne_eq_false_iff_eq.mpr c13;clear c13;have H':=qAm H;clear H;go_wp2
                    (first|go_roundg k2|((try simp only [add_plain] at *);go_roundg k2))
                    case measure=>have:=HK1.1;have:=HK2.1;omega
                    case rel=>exact⟨(x6_2),(wrap64 (x8_2+1)),qB57,H',⟨by have:=HK1.1;have:=HK2.1;omega⟩,⟨by (with_reducible repeat(first|apply Kd.R_alloc|apply Kd.R_drewN|apply Kd.R_drew));exact HO_5.1⟩,⟨by (with_reducible repeat(first|apply Kd.R_alloc|apply Kd.R_drewN|apply Kd.R_drew));exact HO_6.1⟩,⟨by repeat(first|(with_reducible first|exact HB.1|apply below_alloc|apply pw_below_drewN|apply below_drew1)|exact HB.1)⟩⟩
                  · rw [if_neg c13] at H
                    have c13b0:(x7_1==x8_2)=false:=beq_eq_false_iff_ne.mpr c13;have c13b1:(x7_1 !=x8_2)=true:=bne_iff_ne.mpr c13
                    by_cases c14:0≤x7_1
                    · rw [if_pos c14] at H
                      have c14b0:decide (0≤x7_1)=true:=decide_eq_true c14;clear c14
                      by_cases c15:x7_1<(t410.length:Int)
                      · rw [if_pos c15] at H
                        have c15b0:decide (x7_1<(t410.length:Int))=true:=decide_eq_true c15;clear c15
                        by_cases c16:a1=0
                        · rw [if_pos c16] at H
                          exact absurd H (by simp)
                        · rw [if_neg c16] at H
                          have c16b0:(a1==0)=false:=beq_eq_false_iff_ne.mpr c16;have c16b1:(a1 !=0)=true:=bne_iff_ne.mpr c16
                          by_cases c17:(Int.tmod (rd t410 x7_1) a1)=0
                          · rw [if_pos c17] at H
                            have c17b0:((Int.tmod (rd t410 x7_1) a1)==0)=true:=beq_iff_eq.mpr c17;have c17b1:((Int.tmod (rd t410 x7_1) a1) !=0)=false:=bne_eq_false_iff_eq.mpr c17;clear c17
                            by_cases c18:0≤x8_2
                            · rw [if_pos c18] at H
                              have c18b0:decide (0≤x8_2)=true:=decide_eq_true c18;clear c18
                              by_cases c19:x8_2<(t410.length:Int)
                              · rw [if_pos c19] at H
                                have c19b0:decide (x8_2<(t410.length:Int))=true:=decide_eq_true c19;clear c19
                                by_cases c20:(Int.tmod (rd t410 x8_2) a1)=0
                                · rw [if_pos c20] at H
                                  have c20b0:((Int.tmod (rd t410 x8_2) a1)==0)=true:=beq_iff_eq.mpr c20;have c20b1:((Int.tmod (rd t410 x8_2) a1) !=0)=false:=bne_eq_false_iff_eq.mpr c20;clear c20
                                  by_cases c21:a0=0
                                  · rw [if_pos c21] at H
                                    exact absurd H (by simp)
                                  · rw [if_neg c21] at H
                                    have c21b0:(a0==0)=false:=beq_eq_false_iff_ne.mpr c21;have c21b1:(a0 !=0)=true:=bne_iff_ne.mpr c21;obtain⟨ji22,hji22⟩:∃j_:Int,(Int.tmod (wrap64 ((wrap64 (x7_1 - x8_2))+a0)) a0)=j_:=⟨_,rfl⟩
                                    replace H:(if 0≤(ji22) then (if (ji22)<(t410.length:Int) then (if 0≤(Int.tmod (rd t410 (ji22)) a1) then (if (Int.tmod (rd t410 (ji22)) a1)<(x6_2.length:Int) then (spec_l06Differences.l1 k2 a0 a1 t410 (x6_2.set ((Int.tmod (rd t410 (ji22)) a1):Int).toNat (wrap64 ((rd x6_2 (Int.tmod (rd t410 (ji22)) a1))+1))) x7_1 (wrap64 (x8_2+1))) else (none)) else (none)) else (none)) else (none))=some r:=by first|(rw [hji22] at H;exact H)|(simp only [hji22] at H ⊢;exact H)
                                    by_cases c23:0≤(ji22)
                                    · rw [if_pos c23] at H
                                      have c23b0:decide (0≤(ji22))=true:=decide_eq_true c23;clear c23
                                      by_cases c24:(ji22)<(t410.length:Int)
                                      · rw [if_pos c24] at H
                                        have c24b0:decide ((ji22)<(t410.length:Int))=true:=decide_eq_true c24;clear c24;obtain⟨ji25,hji25⟩:∃j_:Int,(Int.tmod (rd t410 (ji22)) a1)=j_:=⟨_,rfl⟩
                                        replace H:(if 0≤(ji25) then (if (ji25)<(x6_2.length:Int) then (spec_l06Differences.l1 k2 a0 a1 t410 (x6_2.set ((ji25):Int).toNat (wrap64 ((rd x6_2 (ji25))+1))) x7_1 (wrap64 (x8_2+1))) else (none)) else (none))=some r:=by first|(rw [hji25] at H;exact H)|(simp only [hji25] at H ⊢;exact H)
                                        by_cases c26:0≤(ji25)
                                        · rw [if_pos c26] at H
                                          have c26b0:decide (0≤(ji25))=true:=decide_eq_true c26;clear c26
                                          by_cases c27:(ji25)<(x6_2.length:Int)
                                          · rw [if_pos c27] at H
                                            have c27b0:decide ((ji25)<(x6_2.length:Int))=true:=decide_eq_true c27;clear c27;obtain⟨y420,hy420⟩:∃y_:List Int,y_=(x6_2.set ((ji25):Int).toNat (wrap64 ((rd x6_2 (ji25))+1))):=⟨_,rfl⟩
                                            replace H:(spec_l06Differences.l1 k2 a0 a1 t410 y420 x7_1 (wrap64 (x8_2+1)))=some r:=by first|(rw [hy420];with_reducible exact H)|(have H2_:=(Option.bind_some _ _).symm.trans H;rw [hy420];with_reducible exact H2_)|(have H2_:=(Option.bind_some _ _).symm.trans H;with_reducible exact H2_)|with_reducible exact H|(rw [hy420];exact H)|exact H
                                            have Ny420:=qAm hy420;clear hy420;have H':=qAm H;clear H;obtain⟨Ao29,co29,eo29⟩:=Kd.R_slice HO_5.1;subst eo29;have p416:0≤(x7_1:Int):=of_decide_eq_true qB56;have q416:x7_1<(t410.length:Int):=of_decide_eq_true qB56;obtain⟨ad416,e416,hx416_0⟩:=Kd.at_int (Kd.R_reads' HO_5.1).2.2 x7_1 p416 q416;cases e416
                                            replace p416:=eq_true p416;replace q416:=eq_true q416;have p417:0≤(x8_2:Int):=of_decide_eq_true qB56;have q417:x8_2<(t410.length:Int):=of_decide_eq_true qB56;obtain⟨ad417,e417,hx417_0⟩:=Kd.at_int (Kd.R_reads' HO_5.1).2.2 x8_2 p417 q417;obtain rfl:ad416=ad417:=(by injection e417)
                                            replace p417:=eq_true p417;replace q417:=eq_true q417;have p418:0≤((ji22):Int):=of_decide_eq_true qB56;have q418:(ji22)<(t410.length:Int):=of_decide_eq_true qB56;obtain⟨ad418,e418,hx418_0⟩:=Kd.at_int (Kd.R_reads' HO_5.1).2.2 (ji22) p418 q418;obtain rfl:ad416=ad418:=(by injection e418)
                                            replace p418:=eq_true p418;replace q418:=eq_true q418;obtain⟨Ao30,co30,eo30⟩:=Kd.R_slice HO_6.1;subst eo30;have p419:0≤((ji25):Int):=of_decide_eq_true qB56;have q419:(ji25)<(x6_2.length:Int):=of_decide_eq_true qB56;obtain⟨ad419,e419,hx419_0⟩:=Kd.at_int (Kd.R_reads' HO_6.1).2.2 (ji25) p419 q419;cases e419
                                            replace p419:=eq_true p419;replace q419:=eq_true q419;have p28:0≤((ji25):Int):=of_decide_eq_true qB56;have q28:((ji25):Int)<((x6_2.length:Int):Int):=of_decide_eq_true qB56;obtain⟨go28,co28,eo28,gb28,gl28,cl28,HG28⟩:=Kd.R_form HO_6.1 (by omega)
                                            (first|cases eo28|(injection eo28 with ea_ en_ ec_;(first|subst ea_|(injection ea_ with ea_;subst ea_));subst ec_;clear en_))
                                            have GB28:=qAm gb28;have GG28:=qAm HG28;clear gb28 gl28 HG28
                                            (first|simp only [add_plain] at hx419_0|skip)
                                            obtain⟨hx28_0,hf28_0⟩:=Kd.R_celln 0 HO_6.1 ((ji25):Int) p28 q28;replace p28:=eq_true p28;replace q28:=eq_true q28;have HP31:=Kd.R_putg HO_6.1 ((ji25):Int) (wrap64 ((rd x6_2 (ji25))+1));go_wp2_with (first|((with_reducible refine gate_store (t:=2) (p:=61) rfl ?_);refine store_event (t:=2) (p:=61) (v:=?vo_w32) (w1:=(wr.setCell ⟨go28,((ji25):Int).toNat,none⟩ (.int .i64 (wrap64 ((rd x6_2 (ji25))+1))))) ?hg ?ho ?hn ?hr ?_;(case ho=>rfl);(case hg=>rfl);(case hn=>rfl);(case hr=>first|(go_simp;done)|(go_simp;rfl));intro w32 hw;have hg:wr.grownBy w32 (some go28):=(by rw [hw];exact HP31.2);have hp_:Kd.R (Kd.int .i64) 2 w32 w.heap.size (fun k_=>some k_≠(.slice (some ad416) t410.length co29:Value).ownBlock) (.slice (some ⟨go28,0,none⟩) x6_2.length co30) y420:=(by rw [hw,Ny420.1];exact HP31.1);clear HP31;have n0_:=qAm (Kd.R_after (v:=(.slice (some ⟨go28,0,none⟩) x6_2.length co30)) (v1:=(.slice (some ⟨go28,0,none⟩) x6_2.length co30)) (ok:=(fun _=>True)) (by (with_reducible repeat(first|apply Kd.R_alloc|apply Kd.R_drewN|apply Kd.R_drew));exact Kd.R_mono HO_5.1 (fun _ hk=>⟨trivial,hk⟩)) hg (.inl rfl));have n1_:=qAm (hp_);have n2_:=qAm ((by rw [hw];exact below_set (HB.1) GB28.1:Below w.heap.size w w32));clear HO_5;clear HO_6;clear HB;have HO_5:=n0_;have HO_6:=n1_;have HB:=n2_;clear n0_ n1_ n2_;clear hg hw hp_))
                                            (first|go_roundg k2|((try simp only [add_plain] at *);go_roundg k2))
                                            case measure=>have:=HK1.1;have:=HK2.1;omega
                                            case rel=>exact⟨(y420),(wrap64 (x8_2+1)),qB57,H',⟨by have:=HK1.1;have:=HK2.1;omega⟩,⟨by (with_reducible repeat(first|apply Kd.R_alloc|apply Kd.R_drewN|apply Kd.R_drew));exact Kd.R_mono HO_5.1 (fun _ hk=>hk.2)⟩,⟨by (with_reducible repeat(first|apply Kd.R_alloc|apply Kd.R_drewN|apply Kd.R_drew));exact HO_6.1⟩,⟨by repeat(first|(with_reducible first|exact HB.1|apply below_alloc|apply pw_below_drewN|apply below_drew1)|exact HB.1)⟩⟩
                                          · rw [if_neg c27] at H
                                            exact absurd H (by simp)
                                        · rw [if_neg c26] at H
                                          exact absurd H (by simp)
                                      · rw [if_neg c24] at H
                                        exact absurd H (by simp)
                                    · rw [if_neg c23] at H
                                      exact absurd H (by simp)
                                · rw [if_neg c20] at H
                                  have c20b0:((Int.tmod (rd t410 x8_2) a1)==0)=false:=beq_eq_false_iff_ne.mpr c20;have c20b1:((Int.tmod (rd t410 x8_2) a1) !=0)=true:=bne_iff_ne.mpr c20;have H':=qAm H;clear H;obtain⟨Ao33,co33,eo33⟩:=Kd.R_slice HO_5.1;subst eo33;have p416:0≤(x7_1:Int):=of_decide_eq_true qB56;have q416:x7_1<(t410.length:Int):=of_decide_eq_true qB56;obtain⟨ad416,e416,hx416_0⟩:=Kd.at_int (Kd.R_reads' HO_5.1).2.2 x7_1 p416 q416;cases e416
                                  replace p416:=eq_true p416;replace q416:=eq_true q416;have p417:0≤(x8_2:Int):=of_decide_eq_true qB56;have q417:x8_2<(t410.length:Int):=of_decide_eq_true qB56;obtain⟨ad417,e417,hx417_0⟩:=Kd.at_int (Kd.R_reads' HO_5.1).2.2 x8_2 p417 q417;obtain rfl:ad416=ad417:=(by injection e417)
                                  replace p417:=eq_true p417;replace q417:=eq_true q417;go_wp2
                                  (first|go_roundg k2|((try simp only [add_plain] at *);go_roundg k2))
                                  case measure=>have:=HK1.1;have:=HK2.1;omega
                                  case rel=>exact⟨(x6_2),(wrap64 (x8_2+1)),qB57,H',⟨by have:=HK1.1;have:=HK2.1;omega⟩,⟨by (with_reducible repeat(first|apply Kd.R_alloc|apply Kd.R_drewN|apply Kd.R_drew));exact HO_5.1⟩,⟨by (with_reducible repeat(first|apply Kd.R_alloc|apply Kd.R_drewN|apply Kd.R_drew));exact HO_6.1⟩,⟨by repeat(first|(with_reducible first|exact HB.1|apply below_alloc|apply pw_below_drewN|apply below_drew1)|exact HB.1)⟩⟩
                              · rw [if_neg c19] at H
                                exact absurd H (by simp)
                            · rw [if_neg c18] at H
                              exact absurd H (by simp)
                          · rw [if_neg c17] at H
                            have c17b0:((Int.tmod (rd t410 x7_1) a1)==0)=false:=beq_eq_false_iff_ne.mpr c17;have c17b1:((Int.tmod (rd t410 x7_1) a1) !=0)=true:=bne_iff_ne.mpr c17;have H':=qAm H;clear H;obtain⟨Ao34,co34,eo34⟩:=Kd.R_slice HO_5.1;subst eo34;have p416:0≤(x7_1:Int):=of_decide_eq_true qB56;have q416:x7_1<(t410.length:Int):=of_decide_eq_true qB56;obtain⟨ad416,e416,hx416_0⟩:=Kd.at_int (Kd.R_reads' HO_5.1).2.2 x7_1 p416 q416;cases e416
                            replace p416:=eq_true p416;replace q416:=eq_true q416;go_wp2
                            (first|go_roundg k2|((try simp only [add_plain] at *);go_roundg k2))
                            case measure=>have:=HK1.1;have:=HK2.1;omega
                            case rel=>exact⟨(x6_2),(wrap64 (x8_2+1)),qB57,H',⟨by have:=HK1.1;have:=HK2.1;omega⟩,⟨by (with_reducible repeat(first|apply Kd.R_alloc|apply Kd.R_drewN|apply Kd.R_drew));exact HO_5.1⟩,⟨by (with_reducible repeat(first|apply Kd.R_alloc|apply Kd.R_drewN|apply Kd.R_drew));exact HO_6.1⟩,⟨by repeat(first|(with_reducible first|exact HB.1|apply below_alloc|apply pw_below_drewN|apply below_drew1)|exact HB.1)⟩⟩
                      · rw [if_neg c15] at H
                        exact absurd H (by simp)
                    · rw [if_neg c14] at H
                      exact absurd H (by simp)
                · rw [if_neg c12] at H
                  have c12b0:decide (x8_2<a0)=false:=decide_eq_false c12;clear c12;have H':=qAm H;clear H;go_wp2
                  (first|go_roundg k2|((try simp only [add_plain] at *);go_roundg k2))
                  case measure=>have:=HK1.1;have:=HK2.1;omega
                  case rel=>exact⟨(x6_2),(wrap64 (x7_1+1)),qB57,H',⟨by have:=HK1.1;have:=HK2.1;omega⟩,⟨by (with_reducible repeat(first|apply Kd.R_alloc|apply Kd.R_drewN|apply Kd.R_drew));exact HO_5.1⟩,⟨by (with_reducible repeat(first|apply Kd.R_alloc|apply Kd.R_drewN|apply Kd.R_drew));exact HO_6.1⟩,⟨by repeat(first|(with_reducible first|exact HB.1|apply below_alloc|apply pw_below_drewN|apply below_drew1)|exact HB.1)⟩⟩
          · rw [if_neg c11] at H
            have c11b0:decide (x7_1<a0)=false:=decide_eq_false c11;clear c11;have H':=qAm H;clear H;go_wp2;try simp only [Act.put,qSa,qSc,qSb]
            go_loopg [9] k1 (fun kq v9 w'=>∃(x6_2:List Int) (x9_2:Int),v9=.int .i64 x9_2∧Aside0 (spec_l06Differences.l2 kq a0 a1 x6_2 x9_2=some r)∧Aside0 (kq≤k1)∧Aside0 (Kd.R (Kd.int .i64) 2 w' w.heap.size (fun _=>True) v414 x6_2)∧Aside0 (Below w.heap.size w w'))
            case atStart=>exact⟨(x6_1),(0),qB57,H',⟨Nat.le_refl _⟩,⟨by (with_reducible repeat(first|apply Kd.R_alloc|apply Kd.R_drewN|apply Kd.R_drew));exact Kd.R_mono HO_6.1 (fun _ hk=>trivial)⟩,⟨by repeat(first|(with_reducible first|exact HB.1|apply below_alloc|apply pw_below_drewN|apply below_drew1)|exact HB.1)⟩⟩
            case round=>
              clear H';try clear c1
              try clear c2
              try clear p2
              try clear q2
              try clear hx2
              try clear hf2
              try clear c4
              try clear c4b0
              try clear c4b1
              try clear p4
              try clear q4
              try clear hx4
              try clear c5
              try clear c5b0
              try clear c5b1
              try clear p6
              try clear c9
              try clear c11
              try clear c11b0
              try clear c12
              try clear c12b0
              try clear c13
              try clear c13b0
              try clear c13b1
              try clear c14
              try clear c14b0
              try clear c15
              try clear c15b0
              try clear c16
              try clear c16b0
              try clear c16b1
              try clear c17
              try clear c17b0
              try clear c17b1
              try clear c18
              try clear c18b0
              try clear c19
              try clear c19b0
              try clear c20
              try clear c20b0
              try clear c20b1
              try clear c21
              try clear c21b0
              try clear c21b1
              try clear c23
              try clear c23b0
              try clear c24
              try clear c24b0
              try clear c26
              try clear c26b0
              try clear c27
              try clear c27b0
              try clear p28
              try clear q28
              try clear hx28
              try clear hf28
              try clear hx28_0
              try clear hx416_0
              try clear hx417_0
              try clear hx418_0
              try clear hx419_0
              try clear p2
              try clear p28
              try clear p416
              try clear p417
              try clear p418
              try clear p419
              try clear q28
              try clear q416
              try clear q417
              try clear q418
              try clear q419
              obtain⟨x6_2,x9_2,rfl,HA,HK2,HO_6,HB⟩:=hrel;cases gk with
              |zero=>exact absurd HA.1 (by simp [spec_l06Differences.l2])
              |succ k2=>
                have H:=HA.1;clear HA;simp only [spec_l06Differences.l2] at H
                by_cases c35:x9_2<a1
                · rw [if_pos c35] at H
                  have c35b0:decide (x9_2<a1)=true:=decide_eq_true c35;clear c35
                  by_cases c36:0≤x9_2
                  · rw [if_pos c36] at H
                    have c36b0:decide (0≤x9_2)=true:=decide_eq_true c36;clear c36
                    by_cases c37:x9_2<(x6_2.length:Int)
                    · rw [if_pos c37] at H
                      have c37b0:decide (x9_2<(x6_2.length:Int))=true:=decide_eq_true c37;clear c37
                      by_cases c38:a1=0
                      · rw [if_pos c38] at H
                        exact absurd H (by simp)
                      · rw [if_neg c38] at H
                        have c38b0:(a1==0)=false:=beq_eq_false_iff_ne.mpr c38;have c38b1:(a1 !=0)=true:=bne_iff_ne.mpr c38
                        by_cases c39:(wrap64 (Int.tdiv (wrap64 (a0 - 1)) a1))=0
                        · rw [if_pos c39] at H
                          exact absurd H (by simp)
                        · rw [if_neg c39] at H
                          have c39b0:((wrap64 (Int.tdiv (wrap64 (a0 - 1)) a1))==0)=false:=beq_eq_false_iff_ne.mpr c39;have c39b1:((wrap64 (Int.tdiv (wrap64 (a0 - 1)) a1)) !=0)=true:=bne_iff_ne.mpr c39;obtain⟨y422,hy422⟩:∃y_:List Int,y_=(x6_2.set (x9_2:Int).toNat (wrap64 (Int.tdiv (rd x6_2 x9_2) (wrap64 (Int.tdiv (wrap64 (a0 - 1)) a1))))):=⟨_,rfl⟩
                          replace H:(spec_l06Differences.l2 k2 a0 a1 y422 (wrap64 (x9_2+1)))=some r:=by first|(rw [hy422];with_reducible exact H)|(have H2_:=(Option.bind_some _ _).symm.trans H;rw [hy422];with_reducible exact H2_)|(have H2_:=(Option.bind_some _ _).symm.trans H;with_reducible exact H2_)|with_reducible exact H|(rw [hy422];exact H)|exact H
                          have Ny422:=qAm hy422;clear hy422;have H':=qAm H;clear H;try go_wp2
                          have n0_:=qAm (Kd.R_drew HO_6.1);have n1_:=qAm (below_drew1 HB.1);clear HO_6 HB;have HO_6:=n0_;have HB:=n1_;clear n0_ n1_;obtain⟨Ao42,co42,eo42⟩:=Kd.R_slice HO_6.1
                          (first|subst eo42|(injection eo42 with f1_ f2_ f3_;have f4_:=f1_.symm;have f5_:=f3_.symm;clear f1_ f2_ f3_;subst f4_;subst f5_))
                          have p421:0≤(x9_2:Int):=of_decide_eq_true qB56;have q421:x9_2<(x6_2.length:Int):=of_decide_eq_true qB56;obtain⟨ad421,e421,hx421_0⟩:=Kd.at_int (Kd.R_reads' HO_6.1).2.2 x9_2 p421 q421;cases e421
                          replace p421:=eq_true p421;replace q421:=eq_true q421;have p40:0≤(x9_2:Int):=of_decide_eq_true qB56;have q40:(x9_2:Int)<((x6_2.length:Int):Int):=of_decide_eq_true qB56;obtain⟨go40,co40,eo40,gb40,gl40,cl40,HG40⟩:=Kd.R_form HO_6.1 (by omega)
                          (first|cases eo40|(injection eo40 with ea_ en_ ec_;(first|subst ea_|(injection ea_ with ea_;subst ea_));subst ec_;clear en_))
                          have GB40:=qAm gb40;have GG40:=qAm HG40;clear gb40 gl40 HG40
                          (first|simp only [add_plain] at hx421_0|skip)
                          obtain⟨hx40_0,hf40_0⟩:=Kd.R_celln 0 HO_6.1 (x9_2:Int) p40 q40;replace p40:=eq_true p40;replace q40:=eq_true q40;have HP43:=Kd.R_putn HO_6.1 (x9_2:Int) (wrap64 (Int.tdiv (rd x6_2 x9_2) (wrap64 (Int.tdiv (wrap64 (a0 - 1)) a1))));rw [← Ny422.1] at HP43;have HQ43:=qAm HP43;clear HP43;refine start_ (n:=13) (S:=fun w'=>w'.cell? ⟨go40,(x9_2).toNat,none⟩=some (.int .i64 (rd x6_2 x9_2))) (ds:=[12]) #[false,false,false,false,false,false,false,false,false,false,false,false,false] (by kernel_rfl) rfl rfl (hx421_0) (fun hHeld=>?_);refine with_tabW spec_l06Differences.tab13 spec_l06Differences.bits13 (fun HT_ HW_=>?_);generalize wr.drew=w41 at HO_6 HB GG40 HQ43 hf40_0 hx40_0 hx421_0 hHeld ⊢;refine pure_ (i:=0) (N:=some 67) (v:=?_) (a':=?_) #[true,false,false,false,false,false,false,false,false,false,false,false,false] rfl rfl (any_of HT_.1 (by kernel_rfl)) (fun _ _ _ h=>h) (Or.inl ⟨by rfl,?_⟩) ?_ ?_;rotate_left
                          · intro w'
                            go_simp;with_reducible rfl
                          rotate_left
                          · simp only [Act.put,qSa,qSb,qSc,i64_w,i32_w]
                            rfl
                          refine pure_ (i:=1) (N:=some 68) (v:=?_) (a':=?_) #[true,true,false,false,false,false,false,false,false,false,false,false,false] rfl rfl (any_of HT_.1 (by kernel_rfl)) (fun _ _ _ h=>h) (Or.inl ⟨by rfl,?_⟩) ?_ ?_;rotate_left
                          · intro w'
                            go_simp;with_reducible rfl
                          rotate_left
                          · simp only [Act.put,qSa,qSb,qSc,i64_w,i32_w]
                            rfl
                          refine pure_ (i:=2) (N:=some 69) (v:=?_) (a':=?_) #[true,true,true,false,false,false,false,false,false,false,false,false,false] rfl rfl (any_of HT_.1 (by kernel_rfl)) (fun _ _ _ h=>h) (Or.inl ⟨by rfl,?_⟩) ?_ ?_;rotate_left
                          · intro w'
                            go_simp;with_reducible rfl
                          rotate_left
                          · simp only [Act.put,qSa,qSb,qSc,i64_w,i32_w]
                            rfl
                          refine pure_ (i:=3) (N:=some 70) (v:=?_) (a':=?_) #[true,true,true,true,false,false,false,false,false,false,false,false,false] rfl rfl (any_of HT_.1 (by kernel_rfl)) (fun _ _ _ h=>h) (Or.inl ⟨by rfl,?_⟩) ?_ ?_;rotate_left
                          · intro w'
                            go_simp;with_reducible rfl
                          rotate_left
                          · simp only [Act.put,qSa,qSb,qSc,i64_w,i32_w]
                            rfl
                          refine pure_ (i:=4) (N:=some 71) (v:=?_) (a':=?_) #[true,true,true,true,true,false,false,false,false,false,false,false,false] rfl rfl (any_of HT_.1 (by kernel_rfl)) (fun _ _ _ h=>h) (Or.inl ⟨by rfl,?_⟩) ?_ ?_;rotate_left
                          · intro w'
                            go_simp;with_reducible rfl
                          rotate_left
                          · simp only [Act.put,qSa,qSb,qSc,i64_w,i32_w]
                            rfl
                          refine pure_ (i:=6) (N:=some 73) (v:=?_) (a':=?_) #[true,true,true,true,true,false,true,false,false,false,false,false,false] rfl rfl (any_of HT_.1 (by kernel_rfl)) (fun _ _ _ h=>h) (Or.inl ⟨by rfl,?_⟩) ?_ ?_;rotate_left
                          · intro w'
                            go_simp;with_reducible rfl
                          rotate_left
                          · simp only [Act.put,qSa,qSb,qSc,i64_w,i32_w]
                            rfl
                          refine pure_ (i:=7) (N:=some 74) (v:=?_) (a':=?_) #[true,true,true,true,true,false,true,true,false,false,false,false,false] rfl rfl (any_of HT_.1 (by kernel_rfl)) (fun _ _ _ h=>h) (Or.inl ⟨by rfl,?_⟩) ?_ ?_;rotate_left
                          · intro w'
                            go_simp;with_reducible rfl
                          rotate_left
                          · simp only [Act.put,qSa,qSb,qSc,i64_w,i32_w]
                            rfl
                          refine pure_ (i:=8) (N:=some 75) (v:=?_) (a':=?_) #[true,true,true,true,true,false,true,true,true,false,false,false,false] rfl rfl (any_of HT_.1 (by kernel_rfl)) (fun _ _ _ h=>h) (Or.inl ⟨by rfl,?_⟩) ?_ ?_;rotate_left
                          · intro w'
                            go_simp;with_reducible rfl
                          rotate_left
                          · simp only [Act.put,qSa,qSb,qSc,i64_w,i32_w]
                            rfl
                          refine pure_ (i:=9) (N:=some 76) (v:=?_) (a':=?_) #[true,true,true,true,true,false,true,true,true,true,false,false,false] rfl rfl (any_of HT_.1 (by kernel_rfl)) (fun _ _ _ h=>h) (Or.inl ⟨by rfl,?_⟩) ?_ ?_;rotate_left
                          · intro w'
                            go_simp;with_reducible rfl
                          rotate_left
                          · simp only [Act.put,qSa,qSb,qSc,i64_w,i32_w]
                            rfl
                          refine take_ (i:=5) (N:=some 72) (v:=?_) (a':=?_) #[true,true,true,true,true,true,true,true,true,true,false,false,false] rfl rfl (take_ofW HT_.1 HW_.1 (by kernel_rfl)) (fun _ _ _ h=>h) (Or.inl ⟨by rfl,?_⟩) hHeld ?_ ?_;rotate_left
                          · intro w' s0
                            go_simp;with_reducible rfl
                          rotate_left
                          · simp only [Act.put,qSa,qSb,qSc,i64_w,i32_w]
                            rfl
                          refine pure_ (i:=10) (N:=some 77) (v:=?_) (a':=?_) #[true,true,true,true,true,true,true,true,true,true,true,false,false] rfl rfl (any_of HT_.1 (by kernel_rfl)) (fun _ _ _ h=>h) (Or.inl ⟨by rfl,?_⟩) ?_ ?_;rotate_left
                          · intro w'
                            go_simp;with_reducible rfl
                          rotate_left
                          · simp only [Act.put,qSa,qSb,qSc,i64_w,i32_w]
                            rfl
                          refine pure_ (i:=11) (N:=some 78) (v:=?_) (a':=?_) #[true,true,true,true,true,true,true,true,true,true,true,true,false] rfl rfl (any_of HT_.1 (by kernel_rfl)) (fun _ _ _ h=>h) (Or.inl ⟨by rfl,?_⟩) ?_ ?_;rotate_left
                          · intro w'
                            go_simp;with_reducible rfl
                          rotate_left
                          · simp only [Act.put,qSa,qSb,qSc,i64_w,i32_w]
                            rfl
                          refine last_ (i:=12) (N:=none) #[true,true,true,true,true,true,true,true,true,true,true,true,true] rfl rfl (one_of HT_.1 (by kernel_rfl)) (by decide) (fun K hK=>?_);refine skip_ (w1:=?_) (by rfl) rfl ?_ ?_;rotate_left
                          · go_simp
                            rfl
                          refine hK.out _ _ ?_;clear hK K;refine done_ (done_of HT_.1 (by kernel_rfl)) ?_;try go_wp2
                          (first|go_roundg k2|((try simp only [add_plain] at *);go_roundg k2))
                          case measure=>have:=HK1.1;have:=HK2.1;omega
                          case rel=>exact⟨(y422),(wrap64 (x9_2+1)),qB57,H',⟨by have:=HK1.1;have:=HK2.1;omega⟩,⟨by (with_reducible repeat(first|apply Kd.R_alloc|apply Kd.R_drewN|apply Kd.R_drew));exact HQ43.1⟩,⟨by repeat(first|(with_reducible first|exact HB.1|apply below_alloc|apply pw_below_drewN|apply below_drew1|refine below_set ?_ GB40.1)|exact HB.1)⟩⟩
                    · rw [if_neg c37] at H
                      exact absurd H (by simp)
                  · rw [if_neg c36] at H
                    exact absurd H (by simp)
                · rw [if_neg c35] at H
                  have c35b0:decide (x9_2<a1)=false:=decide_eq_false c35;clear c35;obtain rfl:=Option.some.inj H;go_wp2;go_ret;exact⟨_,by first|rfl|(simp [errW_none,errW_some] <;> rfl)|(simp [*,errW_none,errW_some] <;> rfl),by (with_reducible repeat(first|apply Kd.R_alloc|apply Kd.R_drewN|apply Kd.R_drew));exact HO_6.1,by repeat(first|(with_reducible first|exact HB.1|apply below_alloc|apply pw_below_drewN|apply below_drew1)|exact HB.1)⟩
    · rw [if_neg c5] at H
      exact absurd H (by simp)
  · rw [if_neg c4] at H
    exact absurd H (by simp)

/-! ### spec_DifferenceNumbers: function 48 -/
def spec_DifferenceNumbers.f (k:Nat) (a0:Int) (a1:Int):Option (List Int×Int):=(spec_l06Code.f k a0 a1 ([]:List Int)).bind fun t423=>(if t423=0 then ((spec_l06Differences.f k a0 a1).bind fun t424=>(some (t424,0))) else (some (([]:List Int),t423)))
theorem spec_DifferenceNumbers.mono:∀a0 a1 k,LeO (spec_DifferenceNumbers.f k a0 a1) (spec_DifferenceNumbers.f (k+1) a0 a1):=by
  intro a0 a1 k;unfold spec_DifferenceNumbers.f;repeat' first
      |(with_reducible exact spec_l06Code.mono _ _ _ _)
      |(with_reducible exact spec_l06Differences.mono _ _ _)
      |(with_reducible exact LeO.refl _)
      |(with_reducible exact LeO.none _)
      |(with_reducible refine LeO.ite ?_ ?_)
      |(with_reducible refine LeO.bind ?_ (fun _=>?_))
      |exact spec_l06Code.mono _ _ _ _
      |exact spec_l06Differences.mono _ _ _
      |exact LeO.none _
      |refine LeO.ite ?_ ?_
      |refine LeO.bind ?_ (fun _=>?_)
set_option maxHeartbeats 8000000 in
set_option maxRecDepth 100000 in
theorem spec_DifferenceNumbers.calls (k:Nat) (a0:Int) (a1:Int) (r1:List Int) (r2:Int) (w:World) (h:spec_DifferenceNumbers.f k a0 a1=some (r1,r2)):
    Calls Try.prog 48 #[.int .i64 a0,.int .i64 a1] w fun e w'=>∃v0_:Value,e=.returned (.tuple #[v0_,.int .i64 r2])∧Kd.R (Kd.int .i64) 2 w' w.heap.size (fun _=>True) v0_ r1∧Below w.heap.size w w':=by
  have HB:=qAm (Below.refl w.heap.size w);have H:((spec_l06Code.f k a0 a1 ([]:List Int)).bind fun t423=>(if t423=0 then ((spec_l06Differences.f k a0 a1).bind fun t424=>(some (t424,0))) else (some (([]:List Int),t423))))=some (r1,r2):=h;clear h;replace H:=qOb H;obtain⟨t423,A30,H⟩:=H;replace H:(if t423=0 then ((spec_l06Differences.f k a0 a1).bind fun t424=>(some (t424,0))) else (some (([]:List Int),t423)))=some (r1,r2):=H;have A3:=qAm A30;clear A30
  by_cases c4:t423=0
  · rw [if_pos c4] at H
    have c4b0:(t423==0)=true:=beq_iff_eq.mpr c4;have c4b1:(t423 !=0)=false:=bne_eq_false_iff_eq.mpr c4;clear c4;replace H:=qOb H;obtain⟨t424,A50,H⟩:=H;replace H:(some (t424,0))=some (r1,r2):=H;have A5:=qAm A50;clear A50;simp only [Option.some.injEq,Prod.mk.injEq] at H;obtain⟨rfl,rfl⟩:=H;go_enter Try.func48,Try.ntmps48;go_wp2_with (first|((with_reducible refine gate_callee (f:=79) rfl ?_);refine goesL_ (some 9) rfl rfl Try.func79 (by kernel_rfl) rfl #[.int .i64 a0,.int .i64 a1,.slice none 0 0] rfl qB19 ?_;(refine(spec_l06Code.calls k a0 a1 _ _ ([]:List Int) t423 _ ?side1 ?side2 A3.1).mono ?_);(case side1=>exact Kd.C_nil _ _);(case side2=>exact Nat.le_refl _);rintro e w' ⟨rfl,⟨nd,rfl⟩⟩;refine⟨_,rfl,?_⟩)|((with_reducible refine gate_callee (f:=98) rfl ?_);refine goesL_ (some 15) rfl rfl Try.func98 (by kernel_rfl) rfl #[.int .i64 a0,.int .i64 a1] rfl qB19 ?_;(with_reducible refine(spec_l06Differences.calls k a0 a1 t424 _ A5.1).mono ?_);rintro e w6 ⟨v425,rfl,ho0,hb⟩;refine⟨_,rfl,?_⟩;have n0_:=qAm (Kd.R_lower ho0 (below_size qB23));have n1_:=qAm (below_step qB23 hb);clear HB;have HO426:=n0_;have HB:=n1_;clear n0_ n1_;(try clear hb);(try clear hb2);(try clear hk);(try clear hi);(try clear ho0)));go_ret2;exact⟨_,by first|rfl|(simp [errW_none,errW_some] <;> rfl)|(simp [*,errW_none,errW_some] <;> rfl),by (with_reducible repeat(first|apply Kd.R_alloc|apply Kd.R_drewN|apply Kd.R_drew));exact HO426.1,by repeat(first|(with_reducible first|exact HB.1|apply below_alloc|apply pw_below_drewN|apply below_drew1)|exact HB.1)⟩
  · rw [if_neg c4] at H
    have c4b0:(t423==0)=false:=beq_eq_false_iff_ne.mpr c4;have c4b1:(t423 !=0)=true:=bne_iff_ne.mpr c4;simp only [Option.some.injEq,Prod.mk.injEq] at H;obtain⟨rfl,rfl⟩:=H;go_enter Try.func48,Try.ntmps48;go_wp2_with (first|((with_reducible refine gate_callee (f:=79) rfl ?_);refine goesL_ (some 9) rfl rfl Try.func79 (by kernel_rfl) rfl #[.int .i64 a0,.int .i64 a1,.slice none 0 0] rfl qB19 ?_;(refine(spec_l06Code.calls k a0 a1 _ _ ([]:List Int) t423 _ ?side1 ?side2 A3.1).mono ?_);(case side1=>exact Kd.C_nil _ _);(case side2=>exact Nat.le_refl _);rintro e w' ⟨rfl,⟨nd,rfl⟩⟩;refine⟨_,rfl,?_⟩));go_ret2;exact⟨_,by first|rfl|(simp [errW_none,errW_some] <;> rfl)|(simp [*,errW_none,errW_some] <;> rfl),by first|exact Kd.R_nil _ _ _ _ _|exact Kd.N_nil _ _ _ _ _|exact Kd.V_nil _ _ _ _ _|exact Kd.Q_nil _ _ _ _ _|exact Kd.S_nil _ _ _ _ _,by repeat(first|(with_reducible first|exact HB.1|apply below_alloc|apply pw_below_drewN|apply below_drew1)|exact HB.1)⟩

/-! ### impl_pdiffs: function 166 -/
-- HAND
def impl_pdiffs.f (k:Nat) (a0:Int) (a1:Int) (a2:Int) (l3:List Int):Option (List Int):=(impl_periods_differences.f k a0 a1 a2 l3).bind fun d=>some d.1
theorem impl_pdiffs.mono:∀a0 a1 a2 a3 k,LeO (impl_pdiffs.f k a0 a1 a2 a3) (impl_pdiffs.f (k+1) a0 a1 a2 a3):=by
  intro a0 a1 a2 a3 k;unfold impl_pdiffs.f;repeat' first
      |(with_reducible exact impl_periodsOf.mono _ _ _)
      |(with_reducible exact LeO.refl _)
      |(with_reducible exact LeO.none _)
      |(with_reducible refine LeO.ite ?_ ?_)
      |(with_reducible refine LeO.bind ?_ (fun _=>?_))
      |exact impl_periodsOf.mono _ _ _
      |apply impl_periods_differences.mono
      |exact LeO.none _
      |refine LeO.ite ?_ ?_
      |refine LeO.bind ?_ (fun _=>?_)

end Go.Proofs.Ytefhabkikaadiaa.PFnPeriods
