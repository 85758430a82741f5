/- The functions that the law reaches, as plain functions, each with the proof that the program comes to it; no condition. Written by a program of this session (wip/mp.py) over the printing of the kit; what is marked HAND is told by hand. -/
import Derived.Test.YtefhabkikaadiaaPFnExactPeriodPolynomialx0
import Derived.Test.YtefhabkikaadiaaPFnExactPeriodPolynomialx2
namespace Go.Proofs.Ytefhabkikaadiaa.PFnExactPeriodPolynomial
open Go.RowKit Go.Proofs.YtefhabkikaadiaaW.PrintWords Go.Proofs.YtefhabkikaadiaaW.PrintLast Go.Proofs.YtefhabkikaadiaaW.PrintMore
attribute [local go_sem] max2_int min2_int max_two min_two max_three min_three max_four min_four   -- for this text's walks alone
set_option linter.unusedVariables false
set_option linter.unusedSimpArgs false

/-! ### spec_l06Times: function 122 -/
-- HAND
theorem val_ {P:Program} {ops:Array Oper} {Q:Exit→Act→World→Prop} {oi:Oper} {N:Option Tmp} {a:Act} {w:World} {v:Value} {K:Act→World→Prop} (hw:Region.wanted oi (yielded ops a.tmps)=true) (hN:oi.dst=N)
    (hrun:(execOp a.eval oi).run P w=.ok (.value v) w) (h:K (a.put N v) w):if Region.wanted oi (yielded ops a.tmps)=true then Oper.wp P oi a w K Q else K (a.put N undef) w:=by
  rw [if_pos hw];unfold Oper.wp;rw [hrun]
  show K (a.put oi.dst v) w
  rw [hN];exact h
mutual
def spec_l06Times.l0:Nat→Int→List Int→List Int→List (List Int)→List Int→Int→Int→Int→Option (List Int)
  |0,_,_,_,_,_,_,_,_=>none
  |k+1,x1,x2,x3,x9,x10,x11,x12,x13=>if x13<x1 then (spec_l06Times.l1 k x1 x2 x3 x9 x10 x11 x12 x13 0) else (some x10)
def spec_l06Times.l1:Nat→Int→List Int→List Int→List (List Int)→List Int→Int→Int→Int→Int→Option (List Int)
  |0,_,_,_,_,_,_,_,_,_=>none
  |k+1,x1,x2,x3,x9,x10,x11,x12,x13,x14=>if x14<x1 then (if 0≤x13 then (if x13<(x2.length:Int) then (if x1=0 then (none) else (if 0≤(Int.tmod (wrap64 (x13+x14)) x1) then (if (Int.tmod (wrap64 (x13+x14)) x1)<(x3.length:Int) then (spec_l06Times.l2 k x1 x2 x3 x9 x10 x11 x12 x13 x14 (wrap64 ((rd x2 x13)*(rd x3 (Int.tmod (wrap64 (x13+x14)) x1)))) 0) else (none)) else (none))) else (none)) else (none)) else (spec_l06Times.l0 k x1 x2 x3 x9 x10 x11 x12 (wrap64 (x13+1)))
def spec_l06Times.l2:Nat→Int→List Int→List Int→List (List Int)→List Int→Int→Int→Int→Int→Int→Int→Option (List Int)
  |0,_,_,_,_,_,_,_,_,_,_,_=>none
  |k+1,x1,x2,x3,x9,x10,x11,x12,x13,x14,x15,x16=>if x16<x1 then (if 0≤x14 then (if x14<(x9.length:Int) then (if 0≤x16 then (if x16<((rd_L1 x9 x14).length:Int) then (if x14=x11 then (if x1=0 then (none) else (if 0≤(Int.tmod (wrap64 (x13+x16)) x1) then (if (Int.tmod (wrap64 (x13+x16)) x1)<(x10.length:Int) then (spec_l06Times.l2 k x1 x2 x3 x9 (x10.set ((Int.tmod (wrap64 (x13+x16)) x1):Int).toNat (wrap64 ((rd x10 (Int.tmod (wrap64 (x13+x16)) x1))+(wrap64 (x15*(wrap64 ((rd (rd_L1 x9 x14) x16) - x12))))))) x11 x12 x13 x14 x15 (wrap64 (x16+1))) else (none)) else (none))) else (if x1=0 then (none) else (if 0≤(Int.tmod (wrap64 (x13+x16)) x1) then (if (Int.tmod (wrap64 (x13+x16)) x1)<(x10.length:Int) then (spec_l06Times.l2 k x1 x2 x3 x9 (x10.set ((Int.tmod (wrap64 (x13+x16)) x1):Int).toNat (wrap64 ((rd x10 (Int.tmod (wrap64 (x13+x16)) x1))+(wrap64 (x15*(rd (rd_L1 x9 x14) x16)))))) x11 x12 x13 x14 x15 (wrap64 (x16+1))) else (none)) else (none)))) else (none)) else (none)) else (none)) else (none)) else (spec_l06Times.l1 k x1 x2 x3 x9 x10 x11 x12 x13 (wrap64 (x14+1)))
end
def spec_l06Times.f (k:Nat) (a0:Int) (a1:Int) (l2:List Int) (l3:List Int):Option (List Int):=(spec_l06Table.f k a0 a1).bind fun t142=>(if 0≤a1 then (if (a1:Int).toNat≤35184372088832 then ((spec_l06Indices.f k a0).bind fun t148=>(if 0≤(wrap64 (a0 - 1)) then (if (wrap64 (a0 - 1))<(t148.length:Int) then (if a1=0 then (none) else (spec_l06Times.l0 k a1 l2 l3 t142 (List.replicate (a1:Int).toNat 0) (Int.tmod (rd t148 (wrap64 (a0 - 1))) a1) (wrap64 (Int.tdiv (wrap64 (a0 - 1)) a1)) 0)) else (none)) else (none))) else (none)) else (none))
theorem spec_l06Times.mono_l:∀k,(∀y0 y1 y2 y3 y4 y5 y6 y7,LeO (spec_l06Times.l0 k y0 y1 y2 y3 y4 y5 y6 y7) (spec_l06Times.l0 (k+1) y0 y1 y2 y3 y4 y5 y6 y7))∧(∀y0 y1 y2 y3 y4 y5 y6 y7 y8,LeO (spec_l06Times.l1 k y0 y1 y2 y3 y4 y5 y6 y7 y8) (spec_l06Times.l1 (k+1) y0 y1 y2 y3 y4 y5 y6 y7 y8))∧(∀y0 y1 y2 y3 y4 y5 y6 y7 y8 y9 y10,LeO (spec_l06Times.l2 k y0 y1 y2 y3 y4 y5 y6 y7 y8 y9 y10) (spec_l06Times.l2 (k+1) y0 y1 y2 y3 y4 y5 y6 y7 y8 y9 y10))
  |0=>⟨fun _ _ _ _ _ _ _ _ r h=>by simp [spec_l06Times.l0] at h,fun _ _ _ _ _ _ _ _ _ r h=>by simp [spec_l06Times.l1] at h,fun _ _ _ _ _ _ _ _ _ _ _ r h=>by simp [spec_l06Times.l2] at h⟩
  |k+1=>by
    obtain⟨ih0,ih1,ih2⟩:=spec_l06Times.mono_l k;refine⟨?_,?_,?_⟩
    · intro y0 y1 y2 y3 y4 y5 y6 y7
      unfold spec_l06Times.l0;repeat' first
      |(with_reducible exact ih0 _ _ _ _ _ _ _ _)
      |(with_reducible exact ih1 _ _ _ _ _ _ _ _ _)
      |(with_reducible exact ih2 _ _ _ _ _ _ _ _ _ _ _)
      |(with_reducible exact spec_l06Indices.mono _ _)
      |(with_reducible exact spec_l06Table.mono _ _ _)
      |(with_reducible exact LeO.refl _)
      |(with_reducible exact LeO.none _)
      |(with_reducible refine LeO.ite ?_ ?_)
      |(with_reducible refine LeO.bind ?_ (fun _=>?_))
      |exact ih0 _ _ _ _ _ _ _ _
      |exact ih1 _ _ _ _ _ _ _ _ _
      |exact ih2 _ _ _ _ _ _ _ _ _ _ _
      |exact spec_l06Indices.mono _ _
      |exact spec_l06Table.mono _ _ _
      |exact LeO.none _
      |refine LeO.ite ?_ ?_
      |refine LeO.bind ?_ (fun _=>?_)
    · intro y0 y1 y2 y3 y4 y5 y6 y7 y8
      unfold spec_l06Times.l1;repeat' first
      |(with_reducible exact ih0 _ _ _ _ _ _ _ _)
      |(with_reducible exact ih1 _ _ _ _ _ _ _ _ _)
      |(with_reducible exact ih2 _ _ _ _ _ _ _ _ _ _ _)
      |(with_reducible exact spec_l06Indices.mono _ _)
      |(with_reducible exact spec_l06Table.mono _ _ _)
      |(with_reducible exact LeO.refl _)
      |(with_reducible exact LeO.none _)
      |(with_reducible refine LeO.ite ?_ ?_)
      |(with_reducible refine LeO.bind ?_ (fun _=>?_))
      |exact ih0 _ _ _ _ _ _ _ _
      |exact ih1 _ _ _ _ _ _ _ _ _
      |exact ih2 _ _ _ _ _ _ _ _ _ _ _
      |exact spec_l06Indices.mono _ _
      |exact spec_l06Table.mono _ _ _
      |exact LeO.none _
      |refine LeO.ite ?_ ?_
      |refine LeO.bind ?_ (fun _=>?_)
    · intro y0 y1 y2 y3 y4 y5 y6 y7 y8 y9 y10
      unfold spec_l06Times.l2;repeat' first
      |(with_reducible exact ih0 _ _ _ _ _ _ _ _)
      |(with_reducible exact ih1 _ _ _ _ _ _ _ _ _)
      |(with_reducible exact ih2 _ _ _ _ _ _ _ _ _ _ _)
      |(with_reducible exact spec_l06Indices.mono _ _)
      |(with_reducible exact spec_l06Table.mono _ _ _)
      |(with_reducible exact LeO.refl _)
      |(with_reducible exact LeO.none _)
      |(with_reducible refine LeO.ite ?_ ?_)
      |(with_reducible refine LeO.bind ?_ (fun _=>?_))
      |exact ih0 _ _ _ _ _ _ _ _
      |exact ih1 _ _ _ _ _ _ _ _ _
      |exact ih2 _ _ _ _ _ _ _ _ _ _ _
      |exact spec_l06Indices.mono _ _
      |exact spec_l06Table.mono _ _ _
      |exact LeO.none _
      |refine LeO.ite ?_ ?_
      |refine LeO.bind ?_ (fun _=>?_)
theorem spec_l06Times.mono:∀a0 a1 a2 a3 k,LeO (spec_l06Times.f k a0 a1 a2 a3) (spec_l06Times.f (k+1) a0 a1 a2 a3):=by
  intro a0 a1 a2 a3 k;obtain⟨ih0,ih1,ih2⟩:=spec_l06Times.mono_l k;unfold spec_l06Times.f;repeat' first
      |(with_reducible exact ih0 _ _ _ _ _ _ _ _)
      |(with_reducible exact ih1 _ _ _ _ _ _ _ _ _)
      |(with_reducible exact ih2 _ _ _ _ _ _ _ _ _ _ _)
      |(with_reducible exact spec_l06Indices.mono _ _)
      |(with_reducible exact spec_l06Table.mono _ _ _)
      |(with_reducible exact LeO.refl _)
      |(with_reducible exact LeO.none _)
      |(with_reducible refine LeO.ite ?_ ?_)
      |(with_reducible refine LeO.bind ?_ (fun _=>?_))
      |exact ih0 _ _ _ _ _ _ _ _
      |exact ih1 _ _ _ _ _ _ _ _ _
      |exact ih2 _ _ _ _ _ _ _ _ _ _ _
      |exact spec_l06Indices.mono _ _
      |exact spec_l06Table.mono _ _ _
      |exact LeO.none _
      |refine LeO.ite ?_ ?_
      |refine LeO.bind ?_ (fun _=>?_)
def spec_l06Times.T2:Bool×List (List Nat×List Nat):=(true,[([],[]),([0],[0]),([],[]),([2],[2]),([1,3],[1,3]),([4],[4]),([],[]),([5,6],[5,6]),([],[]),([8],[8]),([],[]),([9,10],[9,10]),([7,1,0,1,2,3,4,5,6,7],[7]),([11,12,0,1,2,3,4,5,6,7,8,9,10,11,12],[11])])
def spec_l06Times.B2:List Nat:=[0,1,0,4,15,31,0,127,0,256,0,1792,255,8191]
theorem spec_l06Times.tab2:rtab .any (opsOf Try.f122 2)=spec_l06Times.T2:=by kernel_rfl
theorem spec_l06Times.bits2:waitsOk spec_l06Times.T2.2 spec_l06Times.B2=true:=by kernel_rfl
def spec_l06Times.T9:Bool×List (List Nat×List Nat):=(true,[([],[]),([],[]),([0,1],[0,1]),([2],[2]),([],[]),([],[]),([],[]),([5,6],[5,6]),([],[]),([7,8],[7,8]),([4,9],[4,9]),([10],[10]),([3,11],[3,11]),([12,0,1,2,3,4,5,6,7,8,9,10,11,12],[12])])
def spec_l06Times.B9:List Nat:=[0,0,3,7,0,0,0,96,0,480,1008,2032,4095,8191]
theorem spec_l06Times.tab9:rtab .any (opsOf Try.f122 9)=spec_l06Times.T9:=by kernel_rfl
theorem spec_l06Times.bits9:waitsOk spec_l06Times.T9.2 spec_l06Times.B9=true:=by kernel_rfl
def spec_l06Times.T16:Bool×List (List Nat×List Nat):=(true,[([],[]),([],[]),([],[]),([1,2],[1,2]),([],[]),([3,4],[3,4]),([],[]),([],[]),([],[]),([7,8],[7,8]),([],[]),([9,10],[9,10]),([6,11],[6,11]),([12],[12]),([],[]),([],[]),([14,15],[14,15]),([13,16],[13,16]),([0,5,0,1,2,3,4,5,6,7,8,9,10,11,12,13,14,15,16,17],[0,5]),([18,17,0,1,2,3,4,5,6,7,8,9,10,11,12,13,14,15,16,17],[17,18])])
def spec_l06Times.B16:List Nat:=[0,0,0,6,0,30,0,0,0,384,0,1920,4032,8128,0,0,49152,131008,262143,524287]
theorem spec_l06Times.tab16:rtab .any (opsOf Try.f122 16)=spec_l06Times.T16:=by kernel_rfl
theorem spec_l06Times.bits16:waitsOk spec_l06Times.T16.2 spec_l06Times.B16=true:=by kernel_rfl
set_option maxHeartbeats 8000000 in
set_option maxRecDepth 100000 in
theorem spec_l06Times.calls (k:Nat) (a0:Int) (a1:Int) (A2:Option Addr) (c2:Nat) (l2:List Int) (A3:Option Addr) (c3:Nat) (l3:List Int) (r:List Int) (w:World) (hr2:Kd.C (Kd.int .i64) w A2 l2.length l2) (hc2:l2.length≤c2) (hr3:Kd.C (Kd.int .i64) w A3 l3.length l3) (hc3:l3.length≤c3) (h:spec_l06Times.f k a0 a1 l2 l3=some r):
    Calls Try.prog 122 #[.int .i64 a0,.int .i64 a1,.slice A2 l2.length c2,.slice A3 l3.length c3] w fun e w'=>∃v0_:Value,e=.returned (v0_)∧Kd.R (Kd.int .i64) 2 w' w.heap.size (fun _=>True) v0_ r∧Below w.heap.size w w':=by
  have HR2:=qAm hr2;have HC2:=qAm hc2;clear hr2 hc2;have HR3:=qAm hr3;have HC3:=qAm hc3;clear hr3 hc3;have HB:=qAm (Below.refl w.heap.size w);have H:((spec_l06Table.f k a0 a1).bind fun t142=>(if 0≤a1 then (if (a1:Int).toNat≤35184372088832 then ((spec_l06Indices.f k a0).bind fun t148=>(if 0≤(wrap64 (a0 - 1)) then (if (wrap64 (a0 - 1))<(t148.length:Int) then (if a1=0 then (none) else (spec_l06Times.l0 k a1 l2 l3 t142 (List.replicate (a1:Int).toNat 0) (Int.tmod (rd t148 (wrap64 (a0 - 1))) a1) (wrap64 (Int.tdiv (wrap64 (a0 - 1)) a1)) 0)) else (none)) else (none))) else (none)) else (none)))=some r:=h;clear h;replace H:=qOb H;obtain⟨t142,A50,H⟩:=H;replace H:(if 0≤a1 then (if (a1:Int).toNat≤35184372088832 then ((spec_l06Indices.f k a0).bind fun t148=>(if 0≤(wrap64 (a0 - 1)) then (if (wrap64 (a0 - 1))<(t148.length:Int) then (if a1=0 then (none) else (spec_l06Times.l0 k a1 l2 l3 t142 (List.replicate (a1:Int).toNat 0) (Int.tmod (rd t148 (wrap64 (a0 - 1))) a1) (wrap64 (Int.tdiv (wrap64 (a0 - 1)) a1)) 0)) else (none)) else (none))) else (none)) else (none))=some r:=H;have A5:=qAm A50;clear A50
  by_cases c6:0≤a1
  · rw [if_pos c6] at H
    have c6b0:=eq_true c6;have c6b1:decide (0≤a1)=true:=decide_eq_true c6;clear c6
    by_cases c7:(a1:Int).toNat≤35184372088832
    · rw [if_pos c7] at H
      have c7b0:=eq_true c7;have c7b1:decide ((a1:Int).toNat≤35184372088832)=true:=decide_eq_true c7;clear c7;obtain⟨y145,hy145⟩:∃y_:List Int,y_=(List.replicate (a1:Int).toNat 0):=⟨_,rfl⟩
      replace H:((spec_l06Indices.f k a0).bind fun t148=>(if 0≤(wrap64 (a0 - 1)) then (if (wrap64 (a0 - 1))<(t148.length:Int) then (if a1=0 then (none) else (spec_l06Times.l0 k a1 l2 l3 t142 y145 (Int.tmod (rd t148 (wrap64 (a0 - 1))) a1) (wrap64 (Int.tdiv (wrap64 (a0 - 1)) a1)) 0)) else (none)) else (none)))=some r:=by first|(rw [hy145];with_reducible exact H)|(have H2_:=(Option.bind_some _ _).symm.trans H;rw [hy145];with_reducible exact H2_)|(have H2_:=(Option.bind_some _ _).symm.trans H;with_reducible exact H2_)|with_reducible exact H|(rw [hy145];exact H)|exact H
      have Ny145:=qAm hy145;clear hy145;replace H:=qOb H;obtain⟨t148,A80,H⟩:=H;replace H:(if 0≤(wrap64 (a0 - 1)) then (if (wrap64 (a0 - 1))<(t148.length:Int) then (if a1=0 then (none) else (spec_l06Times.l0 k a1 l2 l3 t142 y145 (Int.tmod (rd t148 (wrap64 (a0 - 1))) a1) (wrap64 (Int.tdiv (wrap64 (a0 - 1)) a1)) 0)) else (none)) else (none))=some r:=H;have A8:=qAm A80;clear A80;obtain⟨ji9,hji9⟩:∃j_:Int,(wrap64 (a0 - 1))=j_:=⟨_,rfl⟩
      replace H:(if 0≤(ji9) then (if (ji9)<(t148.length:Int) then (if a1=0 then (none) else (spec_l06Times.l0 k a1 l2 l3 t142 y145 (Int.tmod (rd t148 (ji9)) a1) (wrap64 (Int.tdiv (ji9) a1)) 0)) else (none)) else (none))=some r:=by first|(rw [hji9] at H;exact H)|(simp only [hji9] at H ⊢;exact H)
      (try rw [hji9] at A5)
      (try rw [hji9] at A8)
      have hji9w:(IntKind.i64.wrap (a0 - 1))=ji9:=(i64_w _).trans hji9
      by_cases c10:0≤(ji9)
      · rw [if_pos c10] at H
        have c10b0:decide (0≤(ji9))=true:=decide_eq_true c10;clear c10
        by_cases c11:(ji9)<(t148.length:Int)
        · rw [if_pos c11] at H
          have c11b0:decide ((ji9)<(t148.length:Int))=true:=decide_eq_true c11;clear c11
          by_cases c12:a1=0
          · rw [if_pos c12] at H
            exact absurd H (by simp)
          · rw [if_neg c12] at H
            have c12b0:(a1==0)=false:=beq_eq_false_iff_ne.mpr c12;have c12b1:(a1 !=0)=true:=bne_iff_ne.mpr c12;have H':=qAm H;clear H;go_enter Try.func122,Try.ntmps122;try go_wp2
            have n0_:=qAm (below_drew1 HB.1);clear HB;have HB:=n0_;clear n0_;refine start_ (n:=7) (S:=fun w'=>True) (ds:=[]) #[false,false,false,false,false,false,false] (by kernel_rfl) rfl rfl trivial (fun hHeld=>?_);generalize w.drew=w13 at HB hHeld ⊢;refine pure_ (i:=0) (N:=some 18) (v:=?_) (a':=?_) #[true,false,false,false,false,false,false] rfl rfl (by kernel_rfl) (fun _ _ _ h=>h) (Or.inl ⟨by rfl,?_⟩) ?_ ?_;rotate_left
            · intro w'
              go_simp;with_reducible rfl
            rotate_left
            · simp only [Act.put,qSa,qSb,qSc,i64_w,i32_w]
              rfl
            refine pure_ (i:=1) (N:=some 19) (v:=?_) (a':=?_) #[true,true,false,false,false,false,false] rfl rfl (by kernel_rfl) (fun _ _ _ h=>h) (Or.inl ⟨by rfl,?_⟩) ?_ ?_;rotate_left
            · intro w'
              go_simp;with_reducible rfl
            rotate_left
            · simp only [Act.put,qSa,qSb,qSc,i64_w,i32_w]
              rfl
            refine pure_ (i:=3) (N:=some 21) (v:=?_) (a':=?_) #[true,true,false,true,false,false,false] rfl rfl (by kernel_rfl) (fun _ _ _ h=>h) (Or.inl ⟨by rfl,?_⟩) ?_ ?_;rotate_left
            · intro w'
              go_simp;with_reducible rfl
            rotate_left
            · simp only [Act.put,qSa,qSb,qSc,i64_w,i32_w]
              rfl
            refine join_ (σ:=Value×Value) 1 #[true,true,true,true,true,true,false] (fun s_=>[(20,s_.1),(22,s_.2),(9,s_.1)]) (fun s_ w'=>(Kd.S (Kd.slice 2 (Kd.int .i64)) 22 w' w.heap.size (fun k_=>some k_≠(s_.2:Value).ownBlock) s_.1 t142)∧(Kd.R (Kd.int .i64) 2 w' w.heap.size (fun _=>True) s_.2 y145)∧(Below w.heap.size w w')) ?_ ?_;rotate_left
            · intro hCont
              refine two_ (i:=2) (j:=4) (Ni:=some 20) (Nj:=some 22) #[true,true,true,true,false,false,false] #[true,true,false,true,true,false,false] rfl rfl rfl rfl (by kernel_rfl) (by decide) (by decide) (fun K hK=>?_) (fun K hK=>?_)
              · skip
                refine goes_ Try.func93 (by kernel_rfl) rfl #[.int .i64 a0,.int .i64 a1] (by rfl) rfl rfl qB15 ?_;with_reducible refine(spec_l06Table.calls k a0 a1 t142 _ A5.1).mono ?_
                rintro e w14 ⟨v143,rfl,ho0,hb⟩;refine⟨_,rfl,?_⟩;have n0_:=qAm (Kd.S_lower ho0 (below_size qB19));have n1_:=qAm (below_step qB19 hb);clear HB;have HO144:=n0_;have HB:=n1_;clear n0_ n1_
                (try clear hb)
                (try clear hb2)
                (try clear hk)
                (try clear hi)
                (try clear ho0)
                refine hK.out _ _ trivial (fun hHeld=>?_);clear hK K;refine norm_ (a':=?_) ?_ ?_;rotate_left
                · show Act.put _ (some 20) _=_
                  simp only [Act.put,qSa,qSb,qSc,i64_w,i32_w];rfl
                refine pure_ (i:=5) (N:=some 9) (v:=?_) (a':=?_) #[true,true,true,true,false,true,false] rfl rfl (by kernel_rfl) (fun _ _ _ h=>h) (Or.inl ⟨by rfl,?_⟩) ?_ ?_;rotate_left
                · intro w'
                  go_simp;with_reducible rfl
                rotate_left
                · simp only [Act.put,qSa,qSb,qSc,i64_w,i32_w]
                  rfl
                refine one_ (i:=4) (N:=some 22) #[true,true,true,true,true,true,false] rfl rfl (by kernel_rfl) (by decide) (fun K hK=>?_);refine Kd.R_make_step (Kd.int .i64) _ 2 (by rfl) (N:=22) rfl 22 _ _ rfl a1 rfl rfl Try.underlying22 (.int .i64 0) 8 info2 rfl (by decide) (by omega) 0 (ok:=fun _=>True) (okp:=fun _=>True) rfl (fun _ hk=>hk) trivial (of_decide_eq_true qB46) (Nat.le_trans (Nat.mul_le_mul_right _ (of_decide_eq_true qB46:a1.toNat≤35184372088832)) (by omega)) (Below.refl _ _) (Nat.le_refl _) ?_;intro v146 w15 ho16 hb hg_ hnew_;clear hg_ hnew_
                (first|rw [← Ny145.1] at ho16|(simp only [Int.reduceToNat] at ho16;rw [← Ny145.1] at ho16))
                have n0_:=qAm (Kd.S_elder' qB26 (Kd.R_base ho16) hb);have n1_:=qAm (Kd.R_lower ho16 (below_size qB19));have n2_:=qAm (below_step qB19 hb);clear HO144 HB;have HO144:=n0_;have HO147:=n1_;have HB:=n2_;clear n0_ n1_ n2_ hb ho16;refine hK.out _ _ trivial (fun hHeld=>?_);clear hK K;refine norm_ (a':=?_) ?_ ?_;rotate_left
                · show Act.put _ (some 22) _=_
                  simp only [Act.put,qSa,qSb,qSc,i64_w,i32_w];rfl
                exact norm_ qB45 (hCont (v143,v146) _ ⟨qB16,qB27,qB19⟩)
              · skip
                refine Kd.R_make_step (Kd.int .i64) _ 2 (by rfl) (N:=22) rfl 22 _ _ rfl a1 rfl rfl Try.underlying22 (.int .i64 0) 8 info2 rfl (by decide) (by omega) 0 (ok:=fun _=>True) (okp:=fun _=>True) rfl (fun _ hk=>hk) trivial (of_decide_eq_true qB46) (Nat.le_trans (Nat.mul_le_mul_right _ (of_decide_eq_true qB46:a1.toNat≤35184372088832)) (by omega)) (Below.refl _ _) (Nat.le_refl _) ?_;intro v146 w14 ho15 hb hg_ hnew_;clear hg_ hnew_
                (first|rw [← Ny145.1] at ho15|(simp only [Int.reduceToNat] at ho15;rw [← Ny145.1] at ho15))
                have n0_:=qAm (Kd.R_lower ho15 (below_size qB19));have n1_:=qAm (below_step qB19 hb);clear HB;have HO147:=n0_;have HB:=n1_;clear n0_ n1_ hb ho15;refine hK.out _ _ trivial (fun hHeld=>?_);clear hK K;refine norm_ (a':=?_) ?_ ?_;rotate_left
                · show Act.put _ (some 22) _=_
                  simp only [Act.put,qSa,qSb,qSc,i64_w,i32_w];rfl
                refine one_ (i:=2) (N:=some 20) #[true,true,true,true,true,false,false] rfl rfl (by kernel_rfl) (by decide) (fun K hK=>?_);refine goes_ Try.func93 (by kernel_rfl) rfl #[.int .i64 a0,.int .i64 a1] (by rfl) rfl rfl qB15 ?_;with_reducible refine(spec_l06Table.calls k a0 a1 t142 _ A5.1).mono ?_
                rintro e w16 ⟨v143,rfl,ho0,hb⟩;refine⟨_,rfl,?_⟩;have n0_:=qAm (Kd.R_below qB27 hb);have n1_:=qAm (Kd.S_lower (Kd.S_new' ho0 (Kd.R_lt qB27)) (below_size qB19));have n2_:=qAm (below_step qB19 hb);clear HO147 HB;have HO147:=n0_;have HO144:=n1_;have HB:=n2_;clear n0_ n1_ n2_
                (try clear hb)
                (try clear hb2)
                (try clear hk)
                (try clear hi)
                (try clear ho0)
                refine hK.out _ _ trivial (fun hHeld=>?_);clear hK K;refine norm_ (a':=?_) ?_ ?_;rotate_left
                · show Act.put _ (some 20) _=_
                  simp only [Act.put,qSa,qSb,qSc,i64_w,i32_w];rfl
                refine pure_ (i:=5) (N:=some 9) (v:=?_) (a':=?_) #[true,true,true,true,true,true,false] rfl rfl (by kernel_rfl) (fun _ _ _ h=>h) (Or.inl ⟨by rfl,?_⟩) ?_ ?_;rotate_left
                · intro w'
                  go_simp;with_reducible rfl
                rotate_left
                · simp only [Act.put,qSa,qSb,qSc,i64_w,i32_w]
                  rfl
                exact norm_ qB45 (hCont (v143,v146) _ ⟨qB16,qB27,qB19⟩)
            rintro⟨v143,v146⟩ w17 ⟨h0_,h1_,h2_⟩;have n0_:Aside0 (Kd.S (Kd.slice 2 (Kd.int .i64)) 22 w17 w.heap.size (fun k_=>some k_≠(v146:Value).ownBlock) v143 t142):=⟨h0_⟩
            have n1_:Aside0 (Kd.R (Kd.int .i64) 2 w17 w.heap.size (fun _=>True) v146 y145):=⟨h1_⟩
            have n2_:Aside0 (Below w.heap.size w w17):=⟨h2_⟩
            clear HB h0_ h1_ h2_;have HO144:=n0_;have HO147:=n1_;have HB:=n2_;clear n0_ n1_ n2_;have hHeld:=trivial;refine norm_ (a':=?_) ?_ ?_;rotate_left
            · simp only [putAll,Act.put,qSa,qSb,qSc]
              rfl
            refine pure_ (i:=6) (N:=some 10) (v:=?_) (a':=?_) #[true,true,true,true,true,true,true] rfl rfl (by kernel_rfl) (fun _ _ _ h=>h) (Or.inl ⟨by rfl,?_⟩) ?_ ?_;rotate_left
            · intro w'
              go_simp;with_reducible rfl
            rotate_left
            · simp only [Act.put,qSa,qSb,qSc,i64_w,i32_w]
              rfl
            refine done_ (by kernel_rfl) ?_;try go_wp2
            have n0_:=qAm (Kd.S_drew HO144.1);have n1_:=qAm (Kd.R_drew HO147.1);have n2_:=qAm (below_drew1 HB.1);clear HO144 HO147 HB;have HO144:=n0_;have HO147:=n1_;have HB:=n2_;clear n0_ n1_ n2_;refine start_ (n:=14) (S:=fun _=>True) (ds:=[]) #[false,false,false,false,false,false,false,false,false,false,false,false,false,false] (by kernel_rfl) rfl rfl trivial (fun hHeld=>?_);refine with_tabW spec_l06Times.tab2 spec_l06Times.bits2 (fun HT_ HW_=>?_);generalize w17.drew=w18 at HO144 HO147 HB hHeld ⊢;refine pure_ (i:=0) (N:=some 23) (v:=?_) (a':=?_) #[true,false,false,false,false,false,false,false,false,false,false,false,false,false] rfl rfl (any_of HT_.1 (by kernel_rfl)) (fun _ _ _ h=>h) (Or.inl ⟨by rfl,?_⟩) ?_ ?_;rotate_left
            · intro w'
              go_simp;with_reducible rfl
            rotate_left
            · simp only [Act.put,qSa,qSb,qSc,i64_w,i32_w]
              rfl
            refine pure_ (i:=2) (N:=some 25) (v:=?_) (a':=?_) #[true,false,true,false,false,false,false,false,false,false,false,false,false,false] rfl rfl (any_of HT_.1 (by kernel_rfl)) (fun _ _ _ h=>h) (Or.inl ⟨by rfl,?_⟩) ?_ ?_;rotate_left
            · intro w'
              go_simp;with_reducible rfl
            rotate_left
            · simp only [Act.put,qSa,qSb,qSc,i64_w,i32_w]
              rfl
            refine pure_ (i:=3) (N:=some 26) (v:=?_) (a':=?_) #[true,false,true,true,false,false,false,false,false,false,false,false,false,false] rfl rfl (any_of HT_.1 (by kernel_rfl)) (fun _ _ _ h=>h) (Or.inl ⟨by rfl,?_⟩) ?_ ?_;rotate_left
            · intro w'
              go_simp;with_reducible rfl
            rotate_left
            · simp only [Act.put,qSa,qSb,qSc,i64_w,i32_w]
              rfl
            refine pure_ (i:=6) (N:=some 29) (v:=?_) (a':=?_) #[true,false,true,true,false,false,true,false,false,false,false,false,false,false] rfl rfl (any_of HT_.1 (by kernel_rfl)) (fun _ _ _ h=>h) (Or.inl ⟨by rfl,?_⟩) ?_ ?_;rotate_left
            · intro w'
              go_simp;with_reducible rfl
            rotate_left
            · simp only [Act.put,qSa,qSb,qSc,i64_w,i32_w]
              rfl
            refine pure_ (i:=8) (N:=some 31) (v:=?_) (a':=?_) #[true,false,true,true,false,false,true,false,true,false,false,false,false,false] rfl rfl (any_of HT_.1 (by kernel_rfl)) (fun _ _ _ h=>h) (Or.inl ⟨by rfl,?_⟩) ?_ ?_;rotate_left
            · intro w'
              go_simp;with_reducible rfl
            rotate_left
            · simp only [Act.put,qSa,qSb,qSc,i64_w,i32_w]
              rfl
            refine pure_ (i:=9) (N:=some 32) (v:=?_) (a':=?_) #[true,false,true,true,false,false,true,false,true,true,false,false,false,false] rfl rfl (any_of HT_.1 (by kernel_rfl)) (fun _ _ _ h=>h) (Or.inl ⟨by rfl,?_⟩) ?_ ?_;rotate_left
            · intro w'
              go_simp;with_reducible rfl
            rotate_left
            · simp only [Act.put,qSa,qSb,qSc,i64_w,i32_w]
              rfl
            refine pure_ (i:=10) (N:=some 33) (v:=?_) (a':=?_) #[true,false,true,true,false,false,true,false,true,true,true,false,false,false] rfl rfl (any_of HT_.1 (by kernel_rfl)) (fun _ _ _ h=>h) (Or.inl ⟨by rfl,?_⟩) ?_ ?_;rotate_left
            · intro w'
              go_simp;with_reducible rfl
            rotate_left
            · simp only [Act.put,qSa,qSb,qSc,i64_w,i32_w]
              rfl
            refine pure_ (i:=11) (N:=some 34) (v:=?_) (a':=?_) #[true,false,true,true,false,false,true,false,true,true,true,true,false,false] rfl rfl (any_of HT_.1 (by kernel_rfl)) (fun _ _ _ h=>h) (Or.inl ⟨by rfl,?_⟩) ?_ ?_;rotate_left
            · intro w'
              go_simp;with_reducible rfl
            rotate_left
            · simp only [Act.put,qSa,qSb,qSc,i64_w,i32_w]
              rfl
            refine one_ (i:=1) (N:=some 24) #[true,true,true,true,false,false,true,false,true,true,true,true,false,false] rfl rfl (one_of HT_.1 (by kernel_rfl)) (by decide) (fun K hK=>?_);refine goes_ Try.func95 (by kernel_rfl) rfl #[.int .i64 a0] (by rfl) rfl rfl qB15 ?_;with_reducible refine(spec_l06Indices.calls k a0 t148 _ A8.1).mono ?_
            rintro e w19 ⟨v149,rfl,ho0,hb⟩;refine⟨_,rfl,?_⟩;have n0_:=qAm (Kd.S_elder' qB26 (Kd.R_base ho0) hb);have n1_:=qAm (Kd.R_elder' qB27 (Kd.R_base ho0) hb);have n2_:=qAm (Kd.R_lower (Kd.R_new' ho0 (Kd.R_lt qB27)) (below_size qB19));have n3_:=qAm (below_step qB19 hb);clear HO144 HO147 HB;have HO144:=n0_;have HO147:=n1_;have HO150:=n2_;have HB:=n3_;clear n0_ n1_ n2_ n3_
            (try clear hb)
            (try clear hb2)
            (try clear hk)
            (try clear hi)
            (try clear ho0)
            obtain⟨Ao20,co20,eo20⟩:=Kd.R_slice HO150.1
            (first|subst eo20|(injection eo20 with f1_ f2_ f3_;have f4_:=f1_.symm;have f5_:=f3_.symm;clear f1_ f2_ f3_;subst f4_;subst f5_))
            have p151:0≤((ji9):Int):=of_decide_eq_true qB46;have q151:(ji9)<(t148.length:Int):=of_decide_eq_true qB46;obtain⟨ad151,e151,hx151_0⟩:=Kd.at_int (Kd.R_reads' HO150.1).2.2 (ji9) p151 q151;cases e151
            replace p151:=eq_true p151;replace q151:=eq_true q151;refine hK.out _ _ trivial (fun hHeld=>?_);clear hK K;refine norm_ (a':=?_) ?_ ?_;rotate_left
            · show Act.put _ (some 24) _=_
              simp only [Act.put,qSa,qSb,qSc,i64_w,i32_w];rfl
            refine pure_ (i:=4) (N:=some 27) (v:=?_) (a':=?_) #[true,true,true,true,true,false,true,false,true,true,true,true,false,false] rfl rfl (any_of HT_.1 (by kernel_rfl)) (fun _ _ _ h=>h) (Or.inl ⟨by rfl,?_⟩) ?_ ?_;rotate_left
            · intro w'
              go_simp;with_reducible rfl
            rotate_left
            · simp only [Act.put,qSa,qSb,qSc,i64_w,i32_w]
              rfl
            refine one_ (i:=5) (N:=some 28) #[true,true,true,true,true,true,true,false,true,true,true,true,false,false] rfl rfl (one_of HT_.1 (by kernel_rfl)) (by decide) (fun K hK=>?_);refine val_ (by rfl) rfl (v:=.int .i64 (rd t148 (ji9))) (by go_simp;first|done|with_reducible rfl|rfl) ?_;refine hK.out _ _ trivial (fun hHeld=>?_);clear hK K;refine norm_ (a':=?_) ?_ ?_;rotate_left
            · show Act.put _ (some 28) _=_
              simp only [Act.put,qSa,qSb,qSc,i64_w,i32_w];rfl
            refine pure_ (i:=7) (N:=some 30) (v:=?_) (a':=?_) #[true,true,true,true,true,true,true,true,true,true,true,true,false,false] rfl rfl (any_of HT_.1 (by kernel_rfl)) (fun _ _ _ h=>h) (Or.inl ⟨by rfl,?_⟩) ?_ ?_;rotate_left
            · intro w'
              go_simp;with_reducible rfl
            rotate_left
            · simp only [Act.put,qSa,qSb,qSc,i64_w,i32_w]
              rfl
            refine pure_ (i:=12) (N:=some 11) (v:=?_) (a':=?_) #[true,true,true,true,true,true,true,true,true,true,true,true,true,false] rfl rfl (any_of HT_.1 (by kernel_rfl)) (fun _ _ _ h=>h) (Or.inl ⟨by rfl,?_⟩) ?_ ?_;rotate_left
            · intro w'
              go_simp;with_reducible rfl
            rotate_left
            · simp only [Act.put,qSa,qSb,qSc,i64_w,i32_w]
              rfl
            refine pure_ (i:=13) (N:=some 12) (v:=?_) (a':=?_) #[true,true,true,true,true,true,true,true,true,true,true,true,true,true] rfl rfl (any_of HT_.1 (by kernel_rfl)) (fun _ _ _ h=>h) (Or.inl ⟨by rfl,?_⟩) ?_ ?_;rotate_left
            · intro w'
              go_simp;with_reducible rfl
            rotate_left
            · simp only [Act.put,qSa,qSb,qSc,i64_w,i32_w]
              rfl
            refine done_ (done_of HT_.1 (by kernel_rfl)) ?_;try go_wp2
            try simp only [Act.put,qSa,qSc,qSb]
            go_loopg [13] k (fun kq v13 w'=>∃(x10_1:List Int) (x13_1:Int),v13=.int .i64 x13_1∧Aside0 (spec_l06Times.l0 kq a1 l2 l3 t142 x10_1 (Int.tmod (rd t148 (ji9)) a1) (wrap64 (Int.tdiv (ji9) a1)) x13_1=some r)∧Aside0 (kq≤k)∧Aside0 (Kd.S (Kd.slice 2 (Kd.int .i64)) 22 w' w.heap.size (fun k_=>some k_≠(v146:Value).ownBlock) v143 t142)∧Aside0 (Kd.R (Kd.int .i64) 2 w' w.heap.size (fun _=>True) v146 x10_1)∧Aside0 (Below w.heap.size w w'))
            case atStart=>exact⟨(y145),(0),qB47,H',⟨Nat.le_refl _⟩,⟨by (with_reducible repeat(first|apply Kd.S_alloc|apply Kd.S_drewN|apply Kd.S_drew));exact Kd.S_mono HO144.1 (fun _ hk=>hk.1)⟩,⟨by (with_reducible repeat(first|apply Kd.R_alloc|apply Kd.R_drewN|apply Kd.R_drew));exact Kd.R_mono HO147.1 (fun _ hk=>trivial)⟩,⟨by repeat(first|(with_reducible first|exact HB.1|apply below_alloc|apply pw_below_drewN|apply below_drew1)|exact HB.1)⟩⟩
            case round=>
              clear H';try clear c1
              try clear p1
              try clear q1
              try clear hx1
              try clear c2
              try clear p2
              try clear c3
              try clear c6
              try clear c6b0
              try clear c6b1
              try clear p6
              try clear c7
              try clear c7b0
              try clear c7b1
              try clear c9
              try clear c10
              try clear c10b0
              try clear c11
              try clear c11b0
              try clear c12
              try clear c12b0
              try clear c12b1
              try clear p15
              try clear q15
              try clear hx15
              try clear hx151_0
              try clear p151
              try clear q151
              obtain⟨x10_1,x13_1,rfl,HA,HK1,HO_9,HO_10,HB⟩:=hrel;cases gk with
              |zero=>exact absurd HA.1 (by simp [spec_l06Times.l0])
              |succ k1=>
                have H:=HA.1;clear HA;simp only [spec_l06Times.l0] at H
                by_cases c21:x13_1<a1
                · rw [if_pos c21] at H
                  have c21b0:decide (x13_1<a1)=true:=decide_eq_true c21;clear c21;have H':=qAm H;clear H;go_wp2;try simp only [Act.put,qSa,qSc,qSb]
                  go_loopg [14] k1 (fun kq v14 w'=>∃(x10_2:List Int) (x14_2:Int),v14=.int .i64 x14_2∧Aside0 (spec_l06Times.l1 kq a1 l2 l3 t142 x10_2 (Int.tmod (rd t148 (ji9)) a1) (wrap64 (Int.tdiv (ji9) a1)) x13_1 x14_2=some r)∧Aside0 (kq≤k1)∧Aside0 (Kd.S (Kd.slice 2 (Kd.int .i64)) 22 w' w.heap.size (fun k_=>some k_≠(v146:Value).ownBlock) v143 t142)∧Aside0 (Kd.R (Kd.int .i64) 2 w' w.heap.size (fun _=>True) v146 x10_2)∧Aside0 (Below w.heap.size w w'))
                  case atStart=>exact⟨(x10_1),(0),qB47,H',⟨Nat.le_refl _⟩,⟨by (with_reducible repeat(first|apply Kd.S_alloc|apply Kd.S_drewN|apply Kd.S_drew));exact HO_9.1⟩,⟨by (with_reducible repeat(first|apply Kd.R_alloc|apply Kd.R_drewN|apply Kd.R_drew));exact HO_10.1⟩,⟨by repeat(first|(with_reducible first|exact HB.1|apply below_alloc|apply pw_below_drewN|apply below_drew1)|exact HB.1)⟩⟩
                  case round=>
                    clear H';try clear c1
                    try clear p1
                    try clear q1
                    try clear hx1
                    try clear c2
                    try clear p2
                    try clear c3
                    try clear c6
                    try clear c6b0
                    try clear c6b1
                    try clear p6
                    try clear c7
                    try clear c7b0
                    try clear c7b1
                    try clear c9
                    try clear c10
                    try clear c10b0
                    try clear c11
                    try clear c11b0
                    try clear c12
                    try clear c12b0
                    try clear c12b1
                    try clear p15
                    try clear q15
                    try clear hx15
                    try clear c21
                    try clear c21b0
                    try clear hx151_0
                    try clear p1
                    try clear p15
                    try clear p151
                    try clear p2
                    try clear p6
                    try clear q1
                    try clear q15
                    try clear q151
                    obtain⟨x10_2,x14_2,rfl,HA,HK2,HO_9,HO_10,HB⟩:=hrel;cases gk with
                    |zero=>exact absurd HA.1 (by simp [spec_l06Times.l1])
                    |succ k2=>
                      have H:=HA.1;clear HA;simp only [spec_l06Times.l1] at H
                      by_cases c22:x14_2<a1
                      · rw [if_pos c22] at H
                        have c22b0:decide (x14_2<a1)=true:=decide_eq_true c22;clear c22
                        by_cases c23:0≤x13_1
                        · rw [if_pos c23] at H
                          have c23b0:decide (0≤x13_1)=true:=decide_eq_true c23;clear c23
                          by_cases c24:x13_1<(l2.length:Int)
                          · rw [if_pos c24] at H
                            have c24b0:decide (x13_1<(l2.length:Int))=true:=decide_eq_true c24;clear c24
                            by_cases c25:a1=0
                            · rw [if_pos c25] at H
                              exact absurd H (by simp)
                            · rw [if_neg c25] at H
                              have c25b0:(a1==0)=false:=beq_eq_false_iff_ne.mpr c25;have c25b1:(a1 !=0)=true:=bne_iff_ne.mpr c25;obtain⟨ji26,hji26⟩:∃j_:Int,(Int.tmod (wrap64 (x13_1+x14_2)) a1)=j_:=⟨_,rfl⟩
                              replace H:(if 0≤(ji26) then (if (ji26)<(l3.length:Int) then (spec_l06Times.l2 k2 a1 l2 l3 t142 x10_2 (Int.tmod (rd t148 (ji9)) a1) (wrap64 (Int.tdiv (ji9) a1)) x13_1 x14_2 (wrap64 ((rd l2 x13_1)*(rd l3 (ji26)))) 0) else (none)) else (none))=some r:=by first|(rw [hji26] at H;exact H)|(simp only [hji26] at H ⊢;exact H)
                              by_cases c27:0≤(ji26)
                              · rw [if_pos c27] at H
                                have c27b0:decide (0≤(ji26))=true:=decide_eq_true c27;clear c27
                                by_cases c28:(ji26)<(l3.length:Int)
                                · rw [if_pos c28] at H
                                  have c28b0:decide ((ji26)<(l3.length:Int))=true:=decide_eq_true c28;clear c28;have H':=qAm H;clear H;try go_wp2
                                  have n0_:=qAm (Kd.S_drew HO_9.1);have n1_:=qAm (Kd.R_drew HO_10.1);have n2_:=qAm (below_drew1 HB.1);clear HO_9 HO_10 HB;have HO_9:=n0_;have HO_10:=n1_;have HB:=n2_;clear n0_ n1_ n2_;have p152:0≤(x13_1:Int):=of_decide_eq_true qB46;have q152:x13_1<(l2.length:Int):=of_decide_eq_true qB46;obtain⟨ad152,e152,hx152_0⟩:=Kd.at_int HR2.1 x13_1 p152 q152;have hw152_0:=hx152_0;cases e152
                                  replace hx152_0:=(HB.1.cell (World.block_lt_of_cell? w _ hx152_0)).trans hx152_0;replace p152:=eq_true p152;replace q152:=eq_true q152;have p153:0≤((ji26):Int):=of_decide_eq_true qB46;have q153:(ji26)<(l3.length:Int):=of_decide_eq_true qB46;obtain⟨ad153,e153,hx153_0⟩:=Kd.at_int HR3.1 (ji26) p153 q153;have hw153_0:=hx153_0;cases e153
                                  replace hx153_0:=(HB.1.cell (World.block_lt_of_cell? w _ hx153_0)).trans hx153_0;replace p153:=eq_true p153;replace q153:=eq_true q153;refine start_ (n:=14) (S:=fun w'=>w'.cell? (ad152.add (x13_1).toNat)=some (.int .i64 (rd l2 x13_1))∧w'.cell? (ad153.add ((ji26)).toNat)=some (.int .i64 (rd l3 (ji26)))) (ds:=[]) #[false,false,false,false,false,false,false,false,false,false,false,false,false,false] (by kernel_rfl) rfl rfl ⟨((HB.1.cell (World.block_lt_of_cell? w _ hw152_0)).trans hw152_0),((HB.1.cell (World.block_lt_of_cell? w _ hw153_0)).trans hw153_0)⟩ (fun hHeld=>?_);refine with_tabW spec_l06Times.tab9 spec_l06Times.bits9 (fun HT_ HW_=>?_);generalize wr.drew=w29 at HO_9 HO_10 HB hx152_0 hx153_0 hHeld ⊢;refine pure_ (i:=0) (N:=some 45) (v:=?_) (a':=?_) #[true,false,false,false,false,false,false,false,false,false,false,false,false,false] rfl rfl (any_of HT_.1 (by kernel_rfl)) (fun _ _ _ h=>h) (Or.inl ⟨by rfl,?_⟩) ?_ ?_;rotate_left
                                  · intro w'
                                    go_simp;with_reducible rfl
                                  rotate_left
                                  · simp only [Act.put,qSa,qSb,qSc,i64_w,i32_w]
                                    rfl
                                  refine pure_ (i:=1) (N:=some 46) (v:=?_) (a':=?_) #[true,true,false,false,false,false,false,false,false,false,false,false,false,false] rfl rfl (any_of HT_.1 (by kernel_rfl)) (fun _ _ _ h=>h) (Or.inl ⟨by rfl,?_⟩) ?_ ?_;rotate_left
                                  · intro w'
                                    go_simp;with_reducible rfl
                                  rotate_left
                                  · simp only [Act.put,qSa,qSb,qSc,i64_w,i32_w]
                                    rfl
                                  refine pure_ (i:=2) (N:=some 47) (v:=?_) (a':=?_) #[true,true,true,false,false,false,false,false,false,false,false,false,false,false] rfl rfl (any_of HT_.1 (by kernel_rfl)) (fun _ _ _ h=>h) (Or.inl ⟨by rfl,?_⟩) ?_ ?_;rotate_left
                                  · intro w'
                                    go_simp;with_reducible rfl
                                  rotate_left
                                  · simp only [Act.put,qSa,qSb,qSc,i64_w,i32_w]
                                    rfl
                                  refine pure_ (i:=4) (N:=some 49) (v:=?_) (a':=?_) #[true,true,true,false,true,false,false,false,false,false,false,false,false,false] rfl rfl (any_of HT_.1 (by kernel_rfl)) (fun _ _ _ h=>h) (Or.inl ⟨by rfl,?_⟩) ?_ ?_;rotate_left
                                  · intro w'
                                    go_simp;with_reducible rfl
                                  rotate_left
                                  · simp only [Act.put,qSa,qSb,qSc,i64_w,i32_w]
                                    rfl
                                  refine pure_ (i:=5) (N:=some 50) (v:=?_) (a':=?_) #[true,true,true,false,true,true,false,false,false,false,false,false,false,false] rfl rfl (any_of HT_.1 (by kernel_rfl)) (fun _ _ _ h=>h) (Or.inl ⟨by rfl,?_⟩) ?_ ?_;rotate_left
                                  · intro w'
                                    go_simp;with_reducible rfl
                                  rotate_left
                                  · simp only [Act.put,qSa,qSb,qSc,i64_w,i32_w]
                                    rfl
                                  refine pure_ (i:=6) (N:=some 51) (v:=?_) (a':=?_) #[true,true,true,false,true,true,true,false,false,false,false,false,false,false] rfl rfl (any_of HT_.1 (by kernel_rfl)) (fun _ _ _ h=>h) (Or.inl ⟨by rfl,?_⟩) ?_ ?_;rotate_left
                                  · intro w'
                                    go_simp;with_reducible rfl
                                  rotate_left
                                  · simp only [Act.put,qSa,qSb,qSc,i64_w,i32_w]
                                    rfl
                                  refine pure_ (i:=7) (N:=some 52) (v:=?_) (a':=?_) #[true,true,true,false,true,true,true,true,false,false,false,false,false,false] rfl rfl (any_of HT_.1 (by kernel_rfl)) (fun _ _ _ h=>h) (Or.inl ⟨by rfl,?_⟩) ?_ ?_;rotate_left
                                  · intro w'
                                    go_simp;with_reducible rfl
                                  rotate_left
                                  · simp only [Act.put,qSa,qSb,qSc,i64_w,i32_w]
                                    rfl
                                  refine pure_ (i:=8) (N:=some 53) (v:=?_) (a':=?_) #[true,true,true,false,true,true,true,true,true,false,false,false,false,false] rfl rfl (any_of HT_.1 (by kernel_rfl)) (fun _ _ _ h=>h) (Or.inl ⟨by rfl,?_⟩) ?_ ?_;rotate_left
                                  · intro w'
                                    go_simp;with_reducible rfl
                                  rotate_left
                                  · simp only [Act.put,qSa,qSb,qSc,i64_w,i32_w]
                                    rfl
                                  refine pure_ (i:=9) (N:=some 54) (v:=?_) (a':=?_) #[true,true,true,false,true,true,true,true,true,true,false,false,false,false] rfl rfl (any_of HT_.1 (by kernel_rfl)) (fun _ _ _ h=>h) (Or.inl ⟨by rfl,?_⟩) ?_ ?_;rotate_left
                                  · intro w'
                                    go_simp;with_reducible rfl
                                  rotate_left
                                  · simp only [Act.put,qSa,qSb,qSc,i64_w,i32_w]
                                    rfl
                                  refine pure_ (i:=10) (N:=some 55) (v:=?_) (a':=?_) #[true,true,true,false,true,true,true,true,true,true,true,false,false,false] rfl rfl (any_of HT_.1 (by kernel_rfl)) (fun _ _ _ h=>h) (Or.inl ⟨by rfl,?_⟩) ?_ ?_;rotate_left
                                  · intro w'
                                    go_simp;with_reducible rfl
                                  rotate_left
                                  · simp only [Act.put,qSa,qSb,qSc,i64_w,i32_w]
                                    rfl
                                  refine take_ (i:=3) (N:=some 48) (v:=?_) (a':=?_) #[true,true,true,true,true,true,true,true,true,true,true,false,false,false] rfl rfl (take_ofW HT_.1 HW_.1 (by kernel_rfl)) (fun _ _ _ h=>h) (Or.inl ⟨by rfl,?_⟩) hHeld ?_ ?_;rotate_left
                                  · rintro w' ⟨s0,s1⟩
                                    go_simp;with_reducible rfl
                                  rotate_left
                                  · simp only [Act.put,qSa,qSb,qSc,i64_w,i32_w]
                                    rfl
                                  refine take_ (i:=11) (N:=some 56) (v:=?_) (a':=?_) #[true,true,true,true,true,true,true,true,true,true,true,true,false,false] rfl rfl (take_ofW HT_.1 HW_.1 (by kernel_rfl)) (fun _ _ _ h=>h) (Or.inl ⟨by rfl,?_⟩) hHeld ?_ ?_;rotate_left
                                  · rintro w' ⟨s0,s1⟩
                                    go_simp;with_reducible rfl
                                  rotate_left
                                  · simp only [Act.put,qSa,qSb,qSc,i64_w,i32_w]
                                    rfl
                                  refine pure_ (i:=12) (N:=some 57) (v:=?_) (a':=?_) #[true,true,true,true,true,true,true,true,true,true,true,true,true,false] rfl rfl (any_of HT_.1 (by kernel_rfl)) (fun _ _ _ h=>h) (Or.inl ⟨by rfl,?_⟩) ?_ ?_;rotate_left
                                  · intro w'
                                    go_simp;with_reducible rfl
                                  rotate_left
                                  · simp only [Act.put,qSa,qSb,qSc,i64_w,i32_w]
                                    rfl
                                  refine pure_ (i:=13) (N:=some 15) (v:=?_) (a':=?_) #[true,true,true,true,true,true,true,true,true,true,true,true,true,true] rfl rfl (any_of HT_.1 (by kernel_rfl)) (fun _ _ _ h=>h) (Or.inl ⟨by rfl,?_⟩) ?_ ?_;rotate_left
                                  · intro w'
                                    go_simp;with_reducible rfl
                                  rotate_left
                                  · simp only [Act.put,qSa,qSb,qSc,i64_w,i32_w]
                                    rfl
                                  refine done_ (done_of HT_.1 (by kernel_rfl)) ?_;try go_wp2
                                  try simp only [Act.put,qSa,qSc,qSb]
                                  go_loopg [16] k2 (fun kq v16 w'=>∃(x10_3:List Int) (x16_3:Int),v16=.int .i64 x16_3∧Aside0 (spec_l06Times.l2 kq a1 l2 l3 t142 x10_3 (Int.tmod (rd t148 (ji9)) a1) (wrap64 (Int.tdiv (ji9) a1)) x13_1 x14_2 (wrap64 ((rd l2 x13_1)*(rd l3 (ji26)))) x16_3=some r)∧Aside0 (kq≤k2)∧Aside0 (Kd.S (Kd.slice 2 (Kd.int .i64)) 22 w' w.heap.size (fun k_=>some k_≠(v146:Value).ownBlock) v143 t142)∧Aside0 (Kd.R (Kd.int .i64) 2 w' w.heap.size (fun _=>True) v146 x10_3)∧Aside0 (Below w.heap.size w w'))
                                  case atStart=>exact⟨(x10_2),(0),qB47,H',⟨Nat.le_refl _⟩,⟨by (with_reducible repeat(first|apply Kd.S_alloc|apply Kd.S_drewN|apply Kd.S_drew));exact HO_9.1⟩,⟨by (with_reducible repeat(first|apply Kd.R_alloc|apply Kd.R_drewN|apply Kd.R_drew));exact HO_10.1⟩,⟨by repeat(first|(with_reducible first|exact HB.1|apply below_alloc|apply pw_below_drewN|apply below_drew1)|exact HB.1)⟩⟩
                                  case round=>
                                    clear H';try clear c1
                                    try clear p1
                                    try clear q1
                                    try clear hx1
                                    try clear c2
                                    try clear p2
                                    try clear c3
                                    try clear c6
                                    try clear c6b0
                                    try clear c6b1
                                    try clear p6
                                    try clear c7
                                    try clear c7b0
                                    try clear c7b1
                                    try clear c9
                                    try clear c10
                                    try clear c10b0
                                    try clear c11
                                    try clear c11b0
                                    try clear c12
                                    try clear c12b0
                                    try clear c12b1
                                    try clear p15
                                    try clear q15
                                    try clear hx15
                                    try clear c21
                                    try clear c21b0
                                    try clear c22
                                    try clear c22b0
                                    try clear c23
                                    try clear c23b0
                                    try clear c24
                                    try clear c24b0
                                    try clear c25
                                    try clear c25b0
                                    try clear c25b1
                                    try clear c27
                                    try clear c27b0
                                    try clear c28
                                    try clear c28b0
                                    try clear hx151_0
                                    try clear hx152_0
                                    try clear hx153_0
                                    try clear p1
                                    try clear p15
                                    try clear p151
                                    try clear p152
                                    try clear p153
                                    try clear p2
                                    try clear p6
                                    try clear q1
                                    try clear q15
                                    try clear q151
                                    try clear q152
                                    try clear q153
                                    obtain⟨x10_3,x16_3,rfl,HA,HK3,HO_9,HO_10,HB⟩:=hrel;cases gk with
                                    |zero=>exact absurd HA.1 (by simp [spec_l06Times.l2])
                                    |succ k3=>
                                      have H:=HA.1;clear HA;simp only [spec_l06Times.l2] at H
                                      by_cases c30:x16_3<a1
                                      · rw [if_pos c30] at H
                                        have c30b0:decide (x16_3<a1)=true:=decide_eq_true c30;clear c30
                                        by_cases c31:0≤x14_2
                                        · rw [if_pos c31] at H
                                          have c31b0:decide (0≤x14_2)=true:=decide_eq_true c31;clear c31
                                          by_cases c32:x14_2<(t142.length:Int)
                                          · rw [if_pos c32] at H
                                            have c32b0:decide (x14_2<(t142.length:Int))=true:=decide_eq_true c32;clear c32
                                            by_cases c33:0≤x16_3
                                            · rw [if_pos c33] at H
                                              have c33b0:decide (0≤x16_3)=true:=decide_eq_true c33;clear c33
                                              by_cases c34:x16_3<((rd_L1 t142 x14_2).length:Int)
                                              · rw [if_pos c34] at H
                                                have c34b0:decide (x16_3<((rd_L1 t142 x14_2).length:Int))=true:=decide_eq_true c34;clear c34
                                                by_cases c35:x14_2=(Int.tmod (rd t148 (ji9)) a1)
                                                · rw [if_pos c35] at H
                                                  have c35b0:(x14_2==(Int.tmod (rd t148 (ji9)) a1))=true:=beq_iff_eq.mpr c35;have c35b1:(x14_2 !=(Int.tmod (rd t148 (ji9)) a1))=false:=bne_eq_false_iff_eq.mpr c35;clear c35
                                                  by_cases c36:a1=0
                                                  · rw [if_pos c36] at H
                                                    exact absurd H (by simp)
                                                  · rw [if_neg c36] at H
                                                    have c36b0:(a1==0)=false:=beq_eq_false_iff_ne.mpr c36;have c36b1:(a1 !=0)=true:=bne_iff_ne.mpr c36;obtain⟨ji37,hji37⟩:∃j_:Int,(Int.tmod (wrap64 (x13_1+x16_3)) a1)=j_:=⟨_,rfl⟩
                                                    replace H:(if 0≤(ji37) then (if (ji37)<(x10_3.length:Int) then (spec_l06Times.l2 k3 a1 l2 l3 t142 (x10_3.set ((ji37):Int).toNat (wrap64 ((rd x10_3 (ji37))+(wrap64 ((wrap64 ((rd l2 x13_1)*(rd l3 (ji26))))*(wrap64 ((rd (rd_L1 t142 x14_2) x16_3) - (wrap64 (Int.tdiv (ji9) a1))))))))) (Int.tmod (rd t148 (ji9)) a1) (wrap64 (Int.tdiv (ji9) a1)) x13_1 x14_2 (wrap64 ((rd l2 x13_1)*(rd l3 (ji26)))) (wrap64 (x16_3+1))) else (none)) else (none))=some r:=by first|(rw [hji37] at H;exact H)|(simp only [hji37] at H ⊢;exact H)
                                                    by_cases c38:0≤(ji37)
                                                    · rw [if_pos c38] at H
                                                      have c38b0:decide (0≤(ji37))=true:=decide_eq_true c38;clear c38
                                                      by_cases c39:(ji37)<(x10_3.length:Int)
                                                      · rw [if_pos c39] at H
                                                        have c39b0:decide ((ji37)<(x10_3.length:Int))=true:=decide_eq_true c39;clear c39;obtain⟨y157,hy157⟩:∃y_:List Int,y_=(x10_3.set ((ji37):Int).toNat (wrap64 ((rd x10_3 (ji37))+(wrap64 ((wrap64 ((rd l2 x13_1)*(rd l3 (ji26))))*(wrap64 ((rd (rd_L1 t142 x14_2) x16_3) - (wrap64 (Int.tdiv (ji9) a1))))))))):=⟨_,rfl⟩
                                                        replace H:(spec_l06Times.l2 k3 a1 l2 l3 t142 y157 (Int.tmod (rd t148 (ji9)) a1) (wrap64 (Int.tdiv (ji9) a1)) x13_1 x14_2 (wrap64 ((rd l2 x13_1)*(rd l3 (ji26)))) (wrap64 (x16_3+1)))=some r:=by first|(rw [hy157];with_reducible exact H)|(have H2_:=(Option.bind_some _ _).symm.trans H;rw [hy157];with_reducible exact H2_)|(have H2_:=(Option.bind_some _ _).symm.trans H;with_reducible exact H2_)|with_reducible exact H|(rw [hy157];exact H)|exact H
                                                        have Ny157:=qAm hy157;clear hy157;have H':=qAm H;clear H;obtain⟨Ao41,co41,eo41⟩:=Kd.S_slice HO_9.1;subst eo41;have p154:0≤(x14_2:Int):=of_decide_eq_true qB46;have q154:x14_2<(t142.length:Int):=of_decide_eq_true qB46;obtain⟨ad154,A154_0,c154_0,e154,hx154_0,hl154_0,hi154_0⟩:=at_L1 (Kd.S_reads' HO_9.1).2.2 x14_2 p154 q154;cases e154
                                                        obtain⟨ce154,hce154,hMe154,hcc154⟩:=Kd.S_get HO_9.1 [] x14_2 p154 qB9;obtain⟨ve154_0,rfl,ge154_0⟩:=hMe154;have hv154_0:=hcc154 0 _ rfl;rw [Nat.add_zero,show((Kd.slice 2 (Kd.int .i64))).sz=1 from rfl,Nat.mul_one] at hv154_0;replace hv154_0:=Option.some.inj (hv154_0.symm.trans hx154_0);rw [hv154_0] at ge154_0;have HL154_0:=qAm (show Kd.R (Kd.int .i64) 2 _ _ _ _ (rd_L1 t142 x14_2) from ge154_0);clear hv154_0 ge154_0 hcc154 hce154;have HR154_0:=qAm hi154_0;have HC154_0:=qAm hl154_0;clear hi154_0 hl154_0;replace p154:=eq_true p154;replace q154:=eq_true q154;have p155:0≤(x16_3:Int):=of_decide_eq_true qB46;have q155:x16_3<((rd_L1 t142 x14_2).length:Int):=of_decide_eq_true qB46;obtain⟨ad155,e155,hx155_0⟩:=Kd.at_int qB2 x16_3 p155 q155;cases e155
                                                        replace p155:=eq_true p155;replace q155:=eq_true q155;try go_wp2
                                                        have n0_:=qAm (Kd.S_drew HO_9.1);have n1_:=qAm (Kd.R_drew HO_10.1);have n2_:=qAm (Kd.R_drew HL154_0.1);have n3_:=qAm (Kd.C_drew HR154_0.1);have n4_:=qAm (below_drew1 HB.1);clear HO_9 HO_10 HL154_0 HR154_0 HB;have HO_9:=n0_;have HO_10:=n1_;have HL154_0:=n2_;have HR154_0:=n3_;have HB:=n4_;clear n0_ n1_ n2_ n3_ n4_;obtain⟨Ao43,co43,eo43⟩:=Kd.R_slice HO_10.1
                                                        (first|subst eo43|(injection eo43 with f1_ f2_ f3_;have f4_:=f1_.symm;have f5_:=f3_.symm;clear f1_ f2_ f3_;subst f4_;subst f5_))
                                                        have p156:0≤((ji37):Int):=of_decide_eq_true qB46;have q156:(ji37)<(x10_3.length:Int):=of_decide_eq_true qB46;obtain⟨ad156,e156,hx156_0⟩:=Kd.at_int (Kd.R_reads' HO_10.1).2.2 (ji37) p156 q156;cases e156
                                                        replace p156:=eq_true p156;replace q156:=eq_true q156;have p40:0≤((ji37):Int):=of_decide_eq_true qB46;have q40:((ji37):Int)<((x10_3.length:Int):Int):=of_decide_eq_true qB46;obtain⟨go40,co40,eo40,gb40,gl40,cl40,HG40⟩:=Kd.R_form HO_10.1 (by omega)
                                                        (first|cases eo40|(injection eo40 with ea_ en_ ec_;(first|subst ea_|(injection ea_ with ea_;subst ea_));subst ec_;clear en_))
                                                        have GB40:=qAm gb40;have GG40:=qAm HG40;clear gb40 gl40 HG40
                                                        (first|simp only [add_plain] at hx156_0|skip)
                                                        obtain⟨hx40_0,hf40_0⟩:=Kd.R_celln 0 HO_10.1 ((ji37):Int) p40 q40;replace p40:=eq_true p40;replace q40:=eq_true q40;have HP44:=Kd.R_putn HO_10.1 ((ji37):Int) (wrap64 ((rd x10_3 (ji37))+(wrap64 ((wrap64 ((rd l2 x13_1)*(rd l3 (ji26))))*(wrap64 ((rd (rd_L1 t142 x14_2) x16_3) - (wrap64 (Int.tdiv (ji9) a1))))))));rw [← Ny157.1] at HP44;have HQ44:=qAm HP44;clear HP44;refine start_ (n:=20) (S:=fun w'=>w'.cell? ⟨go40,((ji37)).toNat,none⟩=some (.int .i64 (rd x10_3 (ji37)))) (ds:=[19]) #[false,false,false,false,false,false,false,false,false,false,false,false,false,false,false,false,false,false,false,false] (by kernel_rfl) rfl rfl (hx156_0) (fun hHeld=>?_);refine with_tabW spec_l06Times.tab16 spec_l06Times.bits16 (fun HT_ HW_=>?_);generalize wr.drew=w42 at HO_9 HO_10 HL154_0 HR154_0 HB GG40 HQ44 hf40_0 hx156_0 hx40_0 hHeld ⊢;refine pure_ (i:=0) (N:=some 76) (v:=?_) (a':=?_) #[true,false,false,false,false,false,false,false,false,false,false,false,false,false,false,false,false,false,false,false] rfl rfl (any_of HT_.1 (by kernel_rfl)) (fun _ _ _ h=>h) (Or.inl ⟨by rfl,?_⟩) ?_ ?_;rotate_left
                                                        · intro w'
                                                          go_simp;with_reducible rfl
                                                        rotate_left
                                                        · simp only [Act.put,qSa,qSb,qSc,i64_w,i32_w]
                                                          rfl
                                                        refine pure_ (i:=1) (N:=some 77) (v:=?_) (a':=?_) #[true,true,false,false,false,false,false,false,false,false,false,false,false,false,false,false,false,false,false,false] rfl rfl (any_of HT_.1 (by kernel_rfl)) (fun _ _ _ h=>h) (Or.inl ⟨by rfl,?_⟩) ?_ ?_;rotate_left
                                                        · intro w'
                                                          go_simp;with_reducible rfl
                                                        rotate_left
                                                        · simp only [Act.put,qSa,qSb,qSc,i64_w,i32_w]
                                                          rfl
                                                        refine pure_ (i:=2) (N:=some 78) (v:=?_) (a':=?_) #[true,true,true,false,false,false,false,false,false,false,false,false,false,false,false,false,false,false,false,false] rfl rfl (any_of HT_.1 (by kernel_rfl)) (fun _ _ _ h=>h) (Or.inl ⟨by rfl,?_⟩) ?_ ?_;rotate_left
                                                        · intro w'
                                                          go_simp;with_reducible rfl
                                                        rotate_left
                                                        · simp only [Act.put,qSa,qSb,qSc,i64_w,i32_w]
                                                          rfl
                                                        refine pure_ (i:=3) (N:=some 79) (v:=?_) (a':=?_) #[true,true,true,true,false,false,false,false,false,false,false,false,false,false,false,false,false,false,false,false] rfl rfl (any_of HT_.1 (by kernel_rfl)) (fun _ _ _ h=>h) (Or.inl ⟨by rfl,?_⟩) ?_ ?_;rotate_left
                                                        · intro w'
                                                          go_simp;with_reducible rfl
                                                        rotate_left
                                                        · simp only [Act.put,qSa,qSb,qSc,i64_w,i32_w]
                                                          rfl
                                                        refine pure_ (i:=4) (N:=some 80) (v:=?_) (a':=?_) #[true,true,true,true,true,false,false,false,false,false,false,false,false,false,false,false,false,false,false,false] rfl rfl (any_of HT_.1 (by kernel_rfl)) (fun _ _ _ h=>h) (Or.inl ⟨by rfl,?_⟩) ?_ ?_;rotate_left
                                                        · intro w'
                                                          go_simp;with_reducible rfl
                                                        rotate_left
                                                        · simp only [Act.put,qSa,qSb,qSc,i64_w,i32_w]
                                                          rfl
                                                        refine pure_ (i:=5) (N:=some 81) (v:=?_) (a':=?_) #[true,true,true,true,true,true,false,false,false,false,false,false,false,false,false,false,false,false,false,false] rfl rfl (any_of HT_.1 (by kernel_rfl)) (fun _ _ _ h=>h) (Or.inl ⟨by rfl,?_⟩) ?_ ?_;rotate_left
                                                        · intro w'
                                                          go_simp;with_reducible rfl
                                                        rotate_left
                                                        · simp only [Act.put,qSa,qSb,qSc,i64_w,i32_w]
                                                          rfl
                                                        refine pure_ (i:=6) (N:=some 82) (v:=?_) (a':=?_) #[true,true,true,true,true,true,true,false,false,false,false,false,false,false,false,false,false,false,false,false] rfl rfl (any_of HT_.1 (by kernel_rfl)) (fun _ _ _ h=>h) (Or.inl ⟨by rfl,?_⟩) ?_ ?_;rotate_left
                                                        · intro w'
                                                          go_simp;with_reducible rfl
                                                        rotate_left
                                                        · simp only [Act.put,qSa,qSb,qSc,i64_w,i32_w]
                                                          rfl
                                                        refine pure_ (i:=7) (N:=some 83) (v:=?_) (a':=?_) #[true,true,true,true,true,true,true,true,false,false,false,false,false,false,false,false,false,false,false,false] rfl rfl (any_of HT_.1 (by kernel_rfl)) (fun _ _ _ h=>h) (Or.inl ⟨by rfl,?_⟩) ?_ ?_;rotate_left
                                                        · intro w'
                                                          go_simp;with_reducible rfl
                                                        rotate_left
                                                        · simp only [Act.put,qSa,qSb,qSc,i64_w,i32_w]
                                                          rfl
                                                        refine pure_ (i:=8) (N:=some 84) (v:=?_) (a':=?_) #[true,true,true,true,true,true,true,true,true,false,false,false,false,false,false,false,false,false,false,false] rfl rfl (any_of HT_.1 (by kernel_rfl)) (fun _ _ _ h=>h) (Or.inl ⟨by rfl,?_⟩) ?_ ?_;rotate_left
                                                        · intro w'
                                                          go_simp;with_reducible rfl
                                                        rotate_left
                                                        · simp only [Act.put,qSa,qSb,qSc,i64_w,i32_w]
                                                          rfl
                                                        refine pure_ (i:=9) (N:=some 85) (v:=?_) (a':=?_) #[true,true,true,true,true,true,true,true,true,true,false,false,false,false,false,false,false,false,false,false] rfl rfl (any_of HT_.1 (by kernel_rfl)) (fun _ _ _ h=>h) (Or.inl ⟨by rfl,?_⟩) ?_ ?_;rotate_left
                                                        · intro w'
                                                          go_simp;with_reducible rfl
                                                        rotate_left
                                                        · simp only [Act.put,qSa,qSb,qSc,i64_w,i32_w]
                                                          rfl
                                                        refine pure_ (i:=10) (N:=some 86) (v:=?_) (a':=?_) #[true,true,true,true,true,true,true,true,true,true,true,false,false,false,false,false,false,false,false,false] rfl rfl (any_of HT_.1 (by kernel_rfl)) (fun _ _ _ h=>h) (Or.inl ⟨by rfl,?_⟩) ?_ ?_;rotate_left
                                                        · intro w'
                                                          go_simp;with_reducible rfl
                                                        rotate_left
                                                        · simp only [Act.put,qSa,qSb,qSc,i64_w,i32_w]
                                                          rfl
                                                        refine pure_ (i:=11) (N:=some 87) (v:=?_) (a':=?_) #[true,true,true,true,true,true,true,true,true,true,true,true,false,false,false,false,false,false,false,false] rfl rfl (any_of HT_.1 (by kernel_rfl)) (fun _ _ _ h=>h) (Or.inl ⟨by rfl,?_⟩) ?_ ?_;rotate_left
                                                        · intro w'
                                                          go_simp;with_reducible rfl
                                                        rotate_left
                                                        · simp only [Act.put,qSa,qSb,qSc,i64_w,i32_w]
                                                          rfl
                                                        refine pure_ (i:=12) (N:=some 88) (v:=?_) (a':=?_) #[true,true,true,true,true,true,true,true,true,true,true,true,true,false,false,false,false,false,false,false] rfl rfl (any_of HT_.1 (by kernel_rfl)) (fun _ _ _ h=>h) (Or.inl ⟨by rfl,?_⟩) ?_ ?_;rotate_left
                                                        · intro w'
                                                          go_simp;with_reducible rfl
                                                        rotate_left
                                                        · simp only [Act.put,qSa,qSb,qSc,i64_w,i32_w]
                                                          rfl
                                                        refine pure_ (i:=14) (N:=some 90) (v:=?_) (a':=?_) #[true,true,true,true,true,true,true,true,true,true,true,true,true,false,true,false,false,false,false,false] rfl rfl (any_of HT_.1 (by kernel_rfl)) (fun _ _ _ h=>h) (Or.inl ⟨by rfl,?_⟩) ?_ ?_;rotate_left
                                                        · intro w'
                                                          go_simp;with_reducible rfl
                                                        rotate_left
                                                        · simp only [Act.put,qSa,qSb,qSc,i64_w,i32_w]
                                                          rfl
                                                        refine pure_ (i:=15) (N:=some 91) (v:=?_) (a':=?_) #[true,true,true,true,true,true,true,true,true,true,true,true,true,false,true,true,false,false,false,false] rfl rfl (any_of HT_.1 (by kernel_rfl)) (fun _ _ _ h=>h) (Or.inl ⟨by rfl,?_⟩) ?_ ?_;rotate_left
                                                        · intro w'
                                                          go_simp;with_reducible rfl
                                                        rotate_left
                                                        · simp only [Act.put,qSa,qSb,qSc,i64_w,i32_w]
                                                          rfl
                                                        refine pure_ (i:=16) (N:=some 92) (v:=?_) (a':=?_) #[true,true,true,true,true,true,true,true,true,true,true,true,true,false,true,true,true,false,false,false] rfl rfl (any_of HT_.1 (by kernel_rfl)) (fun _ _ _ h=>h) (Or.inl ⟨by rfl,?_⟩) ?_ ?_;rotate_left
                                                        · intro w'
                                                          go_simp;with_reducible rfl
                                                        rotate_left
                                                        · simp only [Act.put,qSa,qSb,qSc,i64_w,i32_w]
                                                          rfl
                                                        refine take_ (i:=13) (N:=some 89) (v:=?_) (a':=?_) #[true,true,true,true,true,true,true,true,true,true,true,true,true,true,true,true,true,false,false,false] rfl rfl (take_ofW HT_.1 HW_.1 (by kernel_rfl)) (fun _ _ _ h=>h) (Or.inl ⟨by rfl,?_⟩) hHeld ?_ ?_;rotate_left
                                                        · intro w' s0
                                                          go_simp;with_reducible rfl
                                                        rotate_left
                                                        · simp only [Act.put,qSa,qSb,qSc,i64_w,i32_w]
                                                          rfl
                                                        refine pure_ (i:=17) (N:=some 93) (v:=?_) (a':=?_) #[true,true,true,true,true,true,true,true,true,true,true,true,true,true,true,true,true,true,false,false] rfl rfl (any_of HT_.1 (by kernel_rfl)) (fun _ _ _ h=>h) (Or.inl ⟨by rfl,?_⟩) ?_ ?_;rotate_left
                                                        · intro w'
                                                          go_simp;with_reducible rfl
                                                        rotate_left
                                                        · simp only [Act.put,qSa,qSb,qSc,i64_w,i32_w]
                                                          rfl
                                                        refine pure_ (i:=18) (N:=some 94) (v:=?_) (a':=?_) #[true,true,true,true,true,true,true,true,true,true,true,true,true,true,true,true,true,true,true,false] rfl rfl (any_of HT_.1 (by kernel_rfl)) (fun _ _ _ h=>h) (Or.inl ⟨by rfl,?_⟩) ?_ ?_;rotate_left
                                                        · intro w'
                                                          go_simp;with_reducible rfl
                                                        rotate_left
                                                        · simp only [Act.put,qSa,qSb,qSc,i64_w,i32_w]
                                                          rfl
                                                        refine last_ (i:=19) (N:=none) #[true,true,true,true,true,true,true,true,true,true,true,true,true,true,true,true,true,true,true,true] rfl rfl (one_of HT_.1 (by kernel_rfl)) (by decide) (fun K hK=>?_);refine skip_ (w1:=?_) (by rfl) rfl ?_ ?_;rotate_left
                                                        · go_simp
                                                          rfl
                                                        refine hK.out _ _ ?_;clear hK K;refine done_ (done_of HT_.1 (by kernel_rfl)) ?_;try go_wp2
                                                        (first|go_roundg k3|((try simp only [add_plain] at *);go_roundg k3))
                                                        case measure=>have:=HK1.1;have:=HK2.1;have:=HK3.1;omega
                                                        case rel=>exact⟨(y157),(wrap64 (x16_3+1)),qB47,H',⟨by have:=HK1.1;have:=HK2.1;have:=HK3.1;omega⟩,⟨by (with_reducible repeat(first|apply Kd.S_alloc|apply Kd.S_drewN|apply Kd.S_drew));exact Kd.S_mono (Kd.S_far (p:=⟨go40,((ji37):Int).toNat,none⟩) (Kd.S_mono HO_9.1 (fun k_ hk=>(⟨hk,fun e_=>hk (by rw [e_];rfl)⟩:_∧k_≠go40))) (fun _ hk=>hk.2) (.int .i64 (wrap64 ((rd x10_3 (ji37))+(wrap64 ((wrap64 ((rd l2 x13_1)*(rd l3 (ji26))))*(wrap64 ((rd (rd_L1 t142 x14_2) x16_3) - (wrap64 (Int.tdiv (ji9) a1)))))))))) (fun _ hk=>hk.1)⟩,⟨by (with_reducible repeat(first|apply Kd.R_alloc|apply Kd.R_drewN|apply Kd.R_drew));exact HQ44.1⟩,⟨by repeat(first|(with_reducible first|exact HB.1|apply below_alloc|apply pw_below_drewN|apply below_drew1|refine below_set ?_ GB40.1)|exact HB.1)⟩⟩
                                                      · rw [if_neg c39] at H
                                                        exact absurd H (by simp)
                                                    · rw [if_neg c38] at H
                                                      exact absurd H (by simp)
                                                · rw [if_neg c35] at H
                                                  have c35b0:(x14_2==(Int.tmod (rd t148 (ji9)) a1))=false:=beq_eq_false_iff_ne.mpr c35;have c35b1:(x14_2 !=(Int.tmod (rd t148 (ji9)) a1))=true:=bne_iff_ne.mpr c35
                                                  by_cases c45:a1=0
                                                  · rw [if_pos c45] at H
                                                    exact absurd H (by simp)
                                                  · rw [if_neg c45] at H
                                                    have c45b0:(a1==0)=false:=beq_eq_false_iff_ne.mpr c45;have c45b1:(a1 !=0)=true:=bne_iff_ne.mpr c45;obtain⟨ji46,hji46⟩:∃j_:Int,(Int.tmod (wrap64 (x13_1+x16_3)) a1)=j_:=⟨_,rfl⟩
                                                    replace H:(if 0≤(ji46) then (if (ji46)<(x10_3.length:Int) then (spec_l06Times.l2 k3 a1 l2 l3 t142 (x10_3.set ((ji46):Int).toNat (wrap64 ((rd x10_3 (ji46))+(wrap64 ((wrap64 ((rd l2 x13_1)*(rd l3 (ji26))))*(rd (rd_L1 t142 x14_2) x16_3)))))) (Int.tmod (rd t148 (ji9)) a1) (wrap64 (Int.tdiv (ji9) a1)) x13_1 x14_2 (wrap64 ((rd l2 x13_1)*(rd l3 (ji26)))) (wrap64 (x16_3+1))) else (none)) else (none))=some r:=by first|(rw [hji46] at H;exact H)|(simp only [hji46] at H ⊢;exact H)
                                                    by_cases c47:0≤(ji46)
                                                    · rw [if_pos c47] at H
                                                      have c47b0:decide (0≤(ji46))=true:=decide_eq_true c47;clear c47
                                                      by_cases c48:(ji46)<(x10_3.length:Int)
                                                      · rw [if_pos c48] at H
                                                        have c48b0:decide ((ji46)<(x10_3.length:Int))=true:=decide_eq_true c48;clear c48;obtain⟨y159,hy159⟩:∃y_:List Int,y_=(x10_3.set ((ji46):Int).toNat (wrap64 ((rd x10_3 (ji46))+(wrap64 ((wrap64 ((rd l2 x13_1)*(rd l3 (ji26))))*(rd (rd_L1 t142 x14_2) x16_3)))))):=⟨_,rfl⟩
                                                        replace H:(spec_l06Times.l2 k3 a1 l2 l3 t142 y159 (Int.tmod (rd t148 (ji9)) a1) (wrap64 (Int.tdiv (ji9) a1)) x13_1 x14_2 (wrap64 ((rd l2 x13_1)*(rd l3 (ji26)))) (wrap64 (x16_3+1)))=some r:=by first|(rw [hy159];with_reducible exact H)|(have H2_:=(Option.bind_some _ _).symm.trans H;rw [hy159];with_reducible exact H2_)|(have H2_:=(Option.bind_some _ _).symm.trans H;with_reducible exact H2_)|with_reducible exact H|(rw [hy159];exact H)|exact H
                                                        have Ny159:=qAm hy159;clear hy159;have H':=qAm H;clear H;obtain⟨Ao50,co50,eo50⟩:=Kd.S_slice HO_9.1;subst eo50;have p154:0≤(x14_2:Int):=of_decide_eq_true qB46;have q154:x14_2<(t142.length:Int):=of_decide_eq_true qB46;obtain⟨ad154,A154_0,c154_0,e154,hx154_0,hl154_0,hi154_0⟩:=at_L1 (Kd.S_reads' HO_9.1).2.2 x14_2 p154 q154;cases e154
                                                        obtain⟨ce154,hce154,hMe154,hcc154⟩:=Kd.S_get HO_9.1 [] x14_2 p154 qB9;obtain⟨ve154_0,rfl,ge154_0⟩:=hMe154;have hv154_0:=hcc154 0 _ rfl;rw [Nat.add_zero,show((Kd.slice 2 (Kd.int .i64))).sz=1 from rfl,Nat.mul_one] at hv154_0;replace hv154_0:=Option.some.inj (hv154_0.symm.trans hx154_0);rw [hv154_0] at ge154_0;have HL154_0:=qAm (show Kd.R (Kd.int .i64) 2 _ _ _ _ (rd_L1 t142 x14_2) from ge154_0);clear hv154_0 ge154_0 hcc154 hce154;have HR154_0:=qAm hi154_0;have HC154_0:=qAm hl154_0;clear hi154_0 hl154_0;replace p154:=eq_true p154;replace q154:=eq_true q154;have p155:0≤(x16_3:Int):=of_decide_eq_true qB46;have q155:x16_3<((rd_L1 t142 x14_2).length:Int):=of_decide_eq_true qB46;obtain⟨ad155,e155,hx155_0⟩:=Kd.at_int qB2 x16_3 p155 q155;cases e155
                                                        replace p155:=eq_true p155;replace q155:=eq_true q155;try go_wp2
                                                        have n0_:=qAm (Kd.S_drew HO_9.1);have n1_:=qAm (Kd.R_drew HO_10.1);have n2_:=qAm (Kd.R_drew HL154_0.1);have n3_:=qAm (Kd.C_drew HR154_0.1);have n4_:=qAm (below_drew1 HB.1);clear HO_9 HO_10 HL154_0 HR154_0 HB;have HO_9:=n0_;have HO_10:=n1_;have HL154_0:=n2_;have HR154_0:=n3_;have HB:=n4_;clear n0_ n1_ n2_ n3_ n4_;obtain⟨Ao52,co52,eo52⟩:=Kd.R_slice HO_10.1
                                                        (first|subst eo52|(injection eo52 with f1_ f2_ f3_;have f4_:=f1_.symm;have f5_:=f3_.symm;clear f1_ f2_ f3_;subst f4_;subst f5_))
                                                        have p158:0≤((ji46):Int):=of_decide_eq_true qB46;have q158:(ji46)<(x10_3.length:Int):=of_decide_eq_true qB46;obtain⟨ad158,e158,hx158_0⟩:=Kd.at_int (Kd.R_reads' HO_10.1).2.2 (ji46) p158 q158;cases e158
                                                        replace p158:=eq_true p158;replace q158:=eq_true q158;have p49:0≤((ji46):Int):=of_decide_eq_true qB46;have q49:((ji46):Int)<((x10_3.length:Int):Int):=of_decide_eq_true qB46;obtain⟨go49,co49,eo49,gb49,gl49,cl49,HG49⟩:=Kd.R_form HO_10.1 (by omega)
                                                        (first|cases eo49|(injection eo49 with ea_ en_ ec_;(first|subst ea_|(injection ea_ with ea_;subst ea_));subst ec_;clear en_))
                                                        have GB49:=qAm gb49;have GG49:=qAm HG49;clear gb49 gl49 HG49
                                                        (first|simp only [add_plain] at hx158_0|skip)
                                                        obtain⟨hx49_0,hf49_0⟩:=Kd.R_celln 0 HO_10.1 ((ji46):Int) p49 q49;replace p49:=eq_true p49;replace q49:=eq_true q49;have HP53:=Kd.R_putn HO_10.1 ((ji46):Int) (wrap64 ((rd x10_3 (ji46))+(wrap64 ((wrap64 ((rd l2 x13_1)*(rd l3 (ji26))))*(rd (rd_L1 t142 x14_2) x16_3)))));rw [← Ny159.1] at HP53;have HQ53:=qAm HP53;clear HP53;refine start_ (n:=20) (S:=fun w'=>w'.cell? ⟨go49,((ji46)).toNat,none⟩=some (.int .i64 (rd x10_3 (ji46)))) (ds:=[19]) #[false,false,false,false,false,false,false,false,false,false,false,false,false,false,false,false,false,false,false,false] (by kernel_rfl) rfl rfl (hx158_0) (fun hHeld=>?_);refine with_tabW spec_l06Times.tab16 spec_l06Times.bits16 (fun HT_ HW_=>?_);generalize wr.drew=w51 at HO_9 HO_10 HL154_0 HR154_0 HB GG49 HQ53 hf49_0 hx158_0 hx49_0 hHeld ⊢;refine pure_ (i:=0) (N:=some 76) (v:=?_) (a':=?_) #[true,false,false,false,false,false,false,false,false,false,false,false,false,false,false,false,false,false,false,false] rfl rfl (any_of HT_.1 (by kernel_rfl)) (fun _ _ _ h=>h) (Or.inl ⟨by rfl,?_⟩) ?_ ?_;rotate_left
                                                        · intro w'
                                                          go_simp;with_reducible rfl
                                                        rotate_left
                                                        · simp only [Act.put,qSa,qSb,qSc,i64_w,i32_w]
                                                          rfl
                                                        refine pure_ (i:=1) (N:=some 77) (v:=?_) (a':=?_) #[true,true,false,false,false,false,false,false,false,false,false,false,false,false,false,false,false,false,false,false] rfl rfl (any_of HT_.1 (by kernel_rfl)) (fun _ _ _ h=>h) (Or.inl ⟨by rfl,?_⟩) ?_ ?_;rotate_left
                                                        · intro w'
                                                          go_simp;with_reducible rfl
                                                        rotate_left
                                                        · simp only [Act.put,qSa,qSb,qSc,i64_w,i32_w]
                                                          rfl
                                                        refine pure_ (i:=2) (N:=some 78) (v:=?_) (a':=?_) #[true,true,true,false,false,false,false,false,false,false,false,false,false,false,false,false,false,false,false,false] rfl rfl (any_of HT_.1 (by kernel_rfl)) (fun _ _ _ h=>h) (Or.inl ⟨by rfl,?_⟩) ?_ ?_;rotate_left
                                                        · intro w'
                                                          go_simp;with_reducible rfl
                                                        rotate_left
                                                        · simp only [Act.put,qSa,qSb,qSc,i64_w,i32_w]
                                                          rfl
                                                        refine pure_ (i:=3) (N:=some 79) (v:=?_) (a':=?_) #[true,true,true,true,false,false,false,false,false,false,false,false,false,false,false,false,false,false,false,false] rfl rfl (any_of HT_.1 (by kernel_rfl)) (fun _ _ _ h=>h) (Or.inl ⟨by rfl,?_⟩) ?_ ?_;rotate_left
                                                        · intro w'
                                                          go_simp;with_reducible rfl
                                                        rotate_left
                                                        · simp only [Act.put,qSa,qSb,qSc,i64_w,i32_w]
                                                          rfl
                                                        refine pure_ (i:=4) (N:=some 80) (v:=?_) (a':=?_) #[true,true,true,true,true,false,false,false,false,false,false,false,false,false,false,false,false,false,false,false] rfl rfl (any_of HT_.1 (by kernel_rfl)) (fun _ _ _ h=>h) (Or.inl ⟨by rfl,?_⟩) ?_ ?_;rotate_left
                                                        · intro w'
                                                          go_simp;with_reducible rfl
                                                        rotate_left
                                                        · simp only [Act.put,qSa,qSb,qSc,i64_w,i32_w]
                                                          rfl
                                                        refine pure_ (i:=5) (N:=some 81) (v:=?_) (a':=?_) #[true,true,true,true,true,true,false,false,false,false,false,false,false,false,false,false,false,false,false,false] rfl rfl (any_of HT_.1 (by kernel_rfl)) (fun _ _ _ h=>h) (Or.inl ⟨by rfl,?_⟩) ?_ ?_;rotate_left
                                                        · intro w'
                                                          go_simp;with_reducible rfl
                                                        rotate_left
                                                        · simp only [Act.put,qSa,qSb,qSc,i64_w,i32_w]
                                                          rfl
                                                        refine pure_ (i:=6) (N:=some 82) (v:=?_) (a':=?_) #[true,true,true,true,true,true,true,false,false,false,false,false,false,false,false,false,false,false,false,false] rfl rfl (any_of HT_.1 (by kernel_rfl)) (fun _ _ _ h=>h) (Or.inl ⟨by rfl,?_⟩) ?_ ?_;rotate_left
                                                        · intro w'
                                                          go_simp;with_reducible rfl
                                                        rotate_left
                                                        · simp only [Act.put,qSa,qSb,qSc,i64_w,i32_w]
                                                          rfl
                                                        refine pure_ (i:=7) (N:=some 83) (v:=?_) (a':=?_) #[true,true,true,true,true,true,true,true,false,false,false,false,false,false,false,false,false,false,false,false] rfl rfl (any_of HT_.1 (by kernel_rfl)) (fun _ _ _ h=>h) (Or.inl ⟨by rfl,?_⟩) ?_ ?_;rotate_left
                                                        · intro w'
                                                          go_simp;with_reducible rfl
                                                        rotate_left
                                                        · simp only [Act.put,qSa,qSb,qSc,i64_w,i32_w]
                                                          rfl
                                                        refine pure_ (i:=8) (N:=some 84) (v:=?_) (a':=?_) #[true,true,true,true,true,true,true,true,true,false,false,false,false,false,false,false,false,false,false,false] rfl rfl (any_of HT_.1 (by kernel_rfl)) (fun _ _ _ h=>h) (Or.inl ⟨by rfl,?_⟩) ?_ ?_;rotate_left
                                                        · intro w'
                                                          go_simp;with_reducible rfl
                                                        rotate_left
                                                        · simp only [Act.put,qSa,qSb,qSc,i64_w,i32_w]
                                                          rfl
                                                        refine pure_ (i:=9) (N:=some 85) (v:=?_) (a':=?_) #[true,true,true,true,true,true,true,true,true,true,false,false,false,false,false,false,false,false,false,false] rfl rfl (any_of HT_.1 (by kernel_rfl)) (fun _ _ _ h=>h) (Or.inl ⟨by rfl,?_⟩) ?_ ?_;rotate_left
                                                        · intro w'
                                                          go_simp;with_reducible rfl
                                                        rotate_left
                                                        · simp only [Act.put,qSa,qSb,qSc,i64_w,i32_w]
                                                          rfl
                                                        refine pure_ (i:=10) (N:=some 86) (v:=?_) (a':=?_) #[true,true,true,true,true,true,true,true,true,true,true,false,false,false,false,false,false,false,false,false] rfl rfl (any_of HT_.1 (by kernel_rfl)) (fun _ _ _ h=>h) (Or.inl ⟨by rfl,?_⟩) ?_ ?_;rotate_left
                                                        · intro w'
                                                          go_simp;with_reducible rfl
                                                        rotate_left
                                                        · simp only [Act.put,qSa,qSb,qSc,i64_w,i32_w]
                                                          rfl
                                                        refine pure_ (i:=11) (N:=some 87) (v:=?_) (a':=?_) #[true,true,true,true,true,true,true,true,true,true,true,true,false,false,false,false,false,false,false,false] rfl rfl (any_of HT_.1 (by kernel_rfl)) (fun _ _ _ h=>h) (Or.inl ⟨by rfl,?_⟩) ?_ ?_;rotate_left
                                                        · intro w'
                                                          go_simp;with_reducible rfl
                                                        rotate_left
                                                        · simp only [Act.put,qSa,qSb,qSc,i64_w,i32_w]
                                                          rfl
                                                        refine pure_ (i:=12) (N:=some 88) (v:=?_) (a':=?_) #[true,true,true,true,true,true,true,true,true,true,true,true,true,false,false,false,false,false,false,false] rfl rfl (any_of HT_.1 (by kernel_rfl)) (fun _ _ _ h=>h) (Or.inl ⟨by rfl,?_⟩) ?_ ?_;rotate_left
                                                        · intro w'
                                                          go_simp;with_reducible rfl
                                                        rotate_left
                                                        · simp only [Act.put,qSa,qSb,qSc,i64_w,i32_w]
                                                          rfl
                                                        refine pure_ (i:=14) (N:=some 90) (v:=?_) (a':=?_) #[true,true,true,true,true,true,true,true,true,true,true,true,true,false,true,false,false,false,false,false] rfl rfl (any_of HT_.1 (by kernel_rfl)) (fun _ _ _ h=>h) (Or.inl ⟨by rfl,?_⟩) ?_ ?_;rotate_left
                                                        · intro w'
                                                          go_simp;with_reducible rfl
                                                        rotate_left
                                                        · simp only [Act.put,qSa,qSb,qSc,i64_w,i32_w]
                                                          rfl
                                                        refine pure_ (i:=15) (N:=some 91) (v:=?_) (a':=?_) #[true,true,true,true,true,true,true,true,true,true,true,true,true,false,true,true,false,false,false,false] rfl rfl (any_of HT_.1 (by kernel_rfl)) (fun _ _ _ h=>h) (Or.inl ⟨by rfl,?_⟩) ?_ ?_;rotate_left
                                                        · intro w'
                                                          go_simp;with_reducible rfl
                                                        rotate_left
                                                        · simp only [Act.put,qSa,qSb,qSc,i64_w,i32_w]
                                                          rfl
                                                        refine pure_ (i:=16) (N:=some 92) (v:=?_) (a':=?_) #[true,true,true,true,true,true,true,true,true,true,true,true,true,false,true,true,true,false,false,false] rfl rfl (any_of HT_.1 (by kernel_rfl)) (fun _ _ _ h=>h) (Or.inl ⟨by rfl,?_⟩) ?_ ?_;rotate_left
                                                        · intro w'
                                                          go_simp;with_reducible rfl
                                                        rotate_left
                                                        · simp only [Act.put,qSa,qSb,qSc,i64_w,i32_w]
                                                          rfl
                                                        refine take_ (i:=13) (N:=some 89) (v:=?_) (a':=?_) #[true,true,true,true,true,true,true,true,true,true,true,true,true,true,true,true,true,false,false,false] rfl rfl (take_ofW HT_.1 HW_.1 (by kernel_rfl)) (fun _ _ _ h=>h) (Or.inl ⟨by rfl,?_⟩) hHeld ?_ ?_;rotate_left
                                                        · intro w' s0
                                                          go_simp;with_reducible rfl
                                                        rotate_left
                                                        · simp only [Act.put,qSa,qSb,qSc,i64_w,i32_w]
                                                          rfl
                                                        refine pure_ (i:=17) (N:=some 93) (v:=?_) (a':=?_) #[true,true,true,true,true,true,true,true,true,true,true,true,true,true,true,true,true,true,false,false] rfl rfl (any_of HT_.1 (by kernel_rfl)) (fun _ _ _ h=>h) (Or.inl ⟨by rfl,?_⟩) ?_ ?_;rotate_left
                                                        · intro w'
                                                          go_simp;with_reducible rfl
                                                        rotate_left
                                                        · simp only [Act.put,qSa,qSb,qSc,i64_w,i32_w]
                                                          rfl
                                                        refine pure_ (i:=18) (N:=some 94) (v:=?_) (a':=?_) #[true,true,true,true,true,true,true,true,true,true,true,true,true,true,true,true,true,true,true,false] rfl rfl (any_of HT_.1 (by kernel_rfl)) (fun _ _ _ h=>h) (Or.inl ⟨by rfl,?_⟩) ?_ ?_;rotate_left
                                                        · intro w'
                                                          go_simp;with_reducible rfl
                                                        rotate_left
                                                        · simp only [Act.put,qSa,qSb,qSc,i64_w,i32_w]
                                                          rfl
                                                        refine last_ (i:=19) (N:=none) #[true,true,true,true,true,true,true,true,true,true,true,true,true,true,true,true,true,true,true,true] rfl rfl (one_of HT_.1 (by kernel_rfl)) (by decide) (fun K hK=>?_);refine skip_ (w1:=?_) (by rfl) rfl ?_ ?_;rotate_left
                                                        · go_simp
                                                          rfl
                                                        refine hK.out _ _ ?_;clear hK K;refine done_ (done_of HT_.1 (by kernel_rfl)) ?_;try go_wp2
                                                        (first|go_roundg k3|((try simp only [add_plain] at *);go_roundg k3))
                                                        case measure=>have:=HK1.1;have:=HK2.1;have:=HK3.1;omega
                                                        case rel=>exact⟨(y159),(wrap64 (x16_3+1)),qB47,H',⟨by have:=HK1.1;have:=HK2.1;have:=HK3.1;omega⟩,⟨by (with_reducible repeat(first|apply Kd.S_alloc|apply Kd.S_drewN|apply Kd.S_drew));exact Kd.S_mono (Kd.S_far (p:=⟨go49,((ji46):Int).toNat,none⟩) (Kd.S_mono HO_9.1 (fun k_ hk=>(⟨hk,fun e_=>hk (by rw [e_];rfl)⟩:_∧k_≠go49))) (fun _ hk=>hk.2) (.int .i64 (wrap64 ((rd x10_3 (ji46))+(wrap64 ((wrap64 ((rd l2 x13_1)*(rd l3 (ji26))))*(rd (rd_L1 t142 x14_2) x16_3))))))) (fun _ hk=>hk.1)⟩,⟨by (with_reducible repeat(first|apply Kd.R_alloc|apply Kd.R_drewN|apply Kd.R_drew));exact HQ53.1⟩,⟨by repeat(first|(with_reducible first|exact HB.1|apply below_alloc|apply pw_below_drewN|apply below_drew1|refine below_set ?_ GB49.1)|exact HB.1)⟩⟩
                                                      · rw [if_neg c48] at H
                                                        exact absurd H (by simp)
                                                    · rw [if_neg c47] at H
                                                      exact absurd H (by simp)
                                              · rw [if_neg c34] at H
                                                exact absurd H (by simp)
                                            · rw [if_neg c33] at H
                                              exact absurd H (by simp)
                                          · rw [if_neg c32] at H
                                            exact absurd H (by simp)
                                        · rw [if_neg c31] at H
                                          exact absurd H (by simp)
                                      · rw [if_neg c30] at H
                                        have c30b0:decide (x16_3<a1)=false:=decide_eq_false c30;clear c30;have H':=qAm H;clear H;go_wp2
                                        (first|go_roundg k3|((try simp only [add_plain] at *);go_roundg k3))
                                        case measure=>have:=HK1.1;have:=HK2.1;have:=HK3.1;omega
                                        case rel=>exact⟨(x10_3),(wrap64 (x14_2+1)),qB47,H',⟨by have:=HK1.1;have:=HK2.1;have:=HK3.1;omega⟩,⟨by (with_reducible repeat(first|apply Kd.S_alloc|apply Kd.S_drewN|apply Kd.S_drew));exact HO_9.1⟩,⟨by (with_reducible repeat(first|apply Kd.R_alloc|apply Kd.R_drewN|apply Kd.R_drew));exact HO_10.1⟩,⟨by repeat(first|(with_reducible first|exact HB.1|apply below_alloc|apply pw_below_drewN|apply below_drew1)|exact HB.1)⟩⟩
                                · rw [if_neg c28] at H
                                  exact absurd H (by simp)
                              · rw [if_neg c27] at H
                                exact absurd H (by simp)
                          · rw [if_neg c24] at H
                            exact absurd H (by simp)
                        · rw [if_neg c23] at H
                          exact absurd H (by simp)
                      · rw [if_neg c22] at H
                        have c22b0:decide (x14_2<a1)=false:=decide_eq_false c22;clear c22;have H':=qAm H;clear H;go_wp2
                        (first|go_roundg k2|((try simp only [add_plain] at *);go_roundg k2))
                        case measure=>have:=HK1.1;have:=HK2.1;omega
                        case rel=>exact⟨(x10_2),(wrap64 (x13_1+1)),qB47,H',⟨by have:=HK1.1;have:=HK2.1;omega⟩,⟨by (with_reducible repeat(first|apply Kd.S_alloc|apply Kd.S_drewN|apply Kd.S_drew));exact HO_9.1⟩,⟨by (with_reducible repeat(first|apply Kd.R_alloc|apply Kd.R_drewN|apply Kd.R_drew));exact HO_10.1⟩,⟨by repeat(first|(with_reducible first|exact HB.1|apply below_alloc|apply pw_below_drewN|apply below_drew1)|exact HB.1)⟩⟩
                · rw [if_neg c21] at H
                  have c21b0:decide (x13_1<a1)=false:=decide_eq_false c21;clear c21;obtain rfl:=Option.some.inj H;go_wp2;go_ret;exact⟨_,by first|rfl|(simp [errW_none,errW_some] <;> rfl)|(simp only [← hji9];first|rfl|(simp [errW_none,errW_some] <;> rfl))|(simp [*,errW_none,errW_some] <;> rfl),by (with_reducible repeat(first|apply Kd.R_alloc|apply Kd.R_drewN|apply Kd.R_drew));exact HO_10.1,by repeat(first|(with_reducible first|exact HB.1|apply below_alloc|apply pw_below_drewN|apply below_drew1)|exact HB.1)⟩
        · rw [if_neg c11] at H
          exact absurd H (by simp)
      · rw [if_neg c10] at H
        exact absurd H (by simp)
    · rw [if_neg c7] at H
      exact absurd H (by simp)
  · rw [if_neg c6] at H
    exact absurd H (by simp)

end Go.Proofs.Ytefhabkikaadiaa.PFnExactPeriodPolynomial
