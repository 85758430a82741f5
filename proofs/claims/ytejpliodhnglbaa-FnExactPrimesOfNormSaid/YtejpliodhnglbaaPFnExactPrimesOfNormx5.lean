/- The functions that the law reaches, as plain functions, each with the proof that the program comes to it; no condition. Written by a program of this session (wip/mp.py) over the printing of the kit; what is marked HAND is told by hand. -/
import Derived.Test.YtejpliodhnglbaaPFnExactPrimesOfNormx0
import Derived.Test.YtejpliodhnglbaaPFnExactPrimesOfNormx2
import Derived.Test.YtejpliodhnglbaaPFnExactPrimesOfNormx3
import Derived.Test.YtejpliodhnglbaaPFnExactPrimesOfNormx4
namespace Go.Proofs.Ytejpliodhnglbaa.PFnExactPrimesOfNorm
open Go.RowKit Go.Proofs.YtejpliodhnglbaaW.PrintWords Go.Proofs.YtejpliodhnglbaaW.PrintLast Go.Proofs.YtejpliodhnglbaaW.PrintMore
attribute [local go_sem] max2_int min2_int max_two min_two max_three min_three max_four min_four   -- for this text's walks alone
set_option linter.unusedVariables false
set_option linter.unusedSimpArgs false

/-! ### laws_heldCycloS: function 22 -/
def laws_heldCycloS.l0:Nat→List (S26)→Int→Int→Option (Int)
  |0,_,_,_=>none
  |k+1,x0,x1,x5=>if x5<(x0.length:Int) then (if 0≤x5 then (if ((rd_T26 x0 x5).f0)=x1 then ((laws_heldInt64S.f k ((rd_T26 x0 x5).f1) (wrap64 (x1+1))).bind fun t220=>(if t220<0 then (some (-1)) else (laws_heldCycloS.l0 k x0 t220 (wrap64 (x5+1))))) else (some (-1))) else (none)) else (some x1)
def laws_heldCycloS.f (k:Nat) (l0:List (S26)) (a1:Int):Option (Int):=laws_heldCycloS.l0 k l0 a1 0
theorem laws_heldCycloS.mono_l:∀k,(∀y0 y1 y2,LeO (laws_heldCycloS.l0 k y0 y1 y2) (laws_heldCycloS.l0 (k+1) y0 y1 y2))
  |0=>fun _ _ _ r h=>by simp [laws_heldCycloS.l0] at h
  |k+1=>by
    have ih0:=laws_heldCycloS.mono_l k
    · intro y0 y1 y2
      unfold laws_heldCycloS.l0;repeat' first
      |(with_reducible exact ih0 _ _ _)
      |(with_reducible exact laws_heldInt64S.mono _ _ _)
      |(with_reducible exact LeO.refl _)
      |(with_reducible exact LeO.none _)
      |(with_reducible refine LeO.ite ?_ ?_)
      |(with_reducible refine LeO.bind ?_ (fun _=>?_))
      |exact ih0 _ _ _
      |exact laws_heldInt64S.mono _ _ _
      |exact LeO.none _
      |refine LeO.ite ?_ ?_
      |refine LeO.bind ?_ (fun _=>?_)
theorem laws_heldCycloS.mono:∀a0 a1 k,LeO (laws_heldCycloS.f k a0 a1) (laws_heldCycloS.f (k+1) a0 a1):=by
  intro a0 a1 k;have ih0:=laws_heldCycloS.mono_l k;unfold laws_heldCycloS.f;repeat' first
      |(with_reducible exact ih0 _ _ _)
      |(with_reducible exact laws_heldInt64S.mono _ _ _)
      |(with_reducible exact LeO.refl _)
      |(with_reducible exact LeO.none _)
      |(with_reducible refine LeO.ite ?_ ?_)
      |(with_reducible refine LeO.bind ?_ (fun _=>?_))
      |exact ih0 _ _ _
      |exact laws_heldInt64S.mono _ _ _
      |exact LeO.none _
      |refine LeO.ite ?_ ?_
      |refine LeO.bind ?_ (fun _=>?_)
set_option maxHeartbeats 8000000 in
set_option maxRecDepth 100000 in
theorem laws_heldCycloS.calls (k:Nat) (A0:Option Addr) (c0:Nat) (l0:List (S26)) (a1:Int) (r:Int) (w:World) (hr0:Kd.C k26 w A0 l0.length l0) (hc0:l0.length≤c0) (h:laws_heldCycloS.f k l0 a1=some r):
    Calls Try.prog 22 #[.slice A0 l0.length c0,.int .i64 a1] w fun e w'=>e=.returned (.int .i64 r)∧Drawn0 w w':=by
  have HR0:=qAm hr0;have HC0:=qAm hc0;clear hr0 hc0;have H:(laws_heldCycloS.l0 k l0 a1 0)=some r:=h;clear h;have H':=qAm H;clear H;go_enter Try.func22,Try.ntmps22;go_wp2;try simp only [Act.put,qSa,qSc,qSb]
  go_loopg [1,5] k (fun kq v1 v5 w'=>∃(x1_1:Int) (x5_1:Int),v1=.int .i64 x1_1∧v5=.int .i64 x5_1∧Aside0 (laws_heldCycloS.l0 kq l0 x1_1 x5_1=some r)∧Aside0 (kq≤k)∧Drawn0 w w')
  case atStart=>exact⟨(a1),(0),qB37,qB37,H',⟨Nat.le_refl _⟩,by repeat(first|exact Drawn0.refl _|apply Drawn0.step)⟩
  case round=>
    clear H';try clear c2
    try clear p2
    obtain⟨x1_1,x5_1,rfl,rfl,HA,HK1,⟨m1,rfl⟩⟩:=hrel;cases gk with
    |zero=>exact absurd HA.1 (by simp [laws_heldCycloS.l0])
    |succ k1=>
      have H:=HA.1;clear HA;simp only [laws_heldCycloS.l0] at H
      by_cases c3:x5_1<(l0.length:Int)
      · rw [if_pos c3] at H
        have c3b0:decide (x5_1<(l0.length:Int))=true:=decide_eq_true c3;clear c3
        by_cases c4:0≤x5_1
        · rw [if_pos c4] at H
          have c4b0:decide (0≤x5_1)=true:=decide_eq_true c4;clear c4
          by_cases c5:((rd_T26 l0 x5_1).f0)=x1_1
          · rw [if_pos c5] at H
            have c5b0:(((rd_T26 l0 x5_1).f0)==x1_1)=true:=beq_iff_eq.mpr c5;have c5b1:(((rd_T26 l0 x5_1).f0) !=x1_1)=false:=bne_eq_false_iff_eq.mpr c5;clear c5;replace H:=qOb H;obtain⟨t220,A60,H⟩:=H;replace H:(if t220<0 then (some (-1)) else (laws_heldCycloS.l0 k1 l0 t220 (wrap64 (x5_1+1))))=some r:=H;have A6:=qAm A60;clear A60
            by_cases c7:t220<0
            · rw [if_pos c7] at H
              have c7b0:decide (t220<0)=true:=decide_eq_true c7;clear c7;obtain rfl:=Option.some.inj H;have p218:0≤(x5_1:Int):=of_decide_eq_true qB36;have q218:x5_1<(l0.length:Int):=of_decide_eq_true qB36;obtain⟨ad218,A218_1,c218_1,e218,hx218_0,hx218_1,hl218_1,hi218_1⟩:=at_T26 HR0.1 x5_1 p218 q218;cases e218
              have HR218_1:=qAm hi218_1;have HC218_1:=qAm hl218_1;clear hi218_1 hl218_1;replace p218:=eq_true p218;replace q218:=eq_true q218;have p219:0≤(x5_1:Int):=of_decide_eq_true qB36;have q219:x5_1<(l0.length:Int):=of_decide_eq_true qB36;obtain⟨ad219,A219_1,c219_1,e219,hx219_0,hx219_1,hl219_1,hi219_1⟩:=at_T26 HR0.1 x5_1 p219 q219;obtain rfl:ad218=ad219:=(by injection e219)
              have HR219_1:=qAm hi219_1;have HC219_1:=qAm hl219_1;clear hi219_1 hl219_1;replace p219:=eq_true p219;replace q219:=eq_true q219;have ea_:=Option.some.inj (hx218_1.symm.trans hx219_1);injection ea_ with ea_ en_ ec_
              subst ea_;subst ec_;clear en_;go_wp2_with (first|((with_reducible refine gate_callee (f:=34) rfl ?_);refine goesL_ (some 27) rfl rfl Try.func34 (by kernel_rfl) rfl #[.slice A218_1 ((rd_T26 l0 x5_1).f1).length c218_1,.int .i64 (wrap64 (x1_1+1))] rfl qB15 ?_;(with_reducible refine(laws_heldInt64S.calls k1 _ _ ((rd_T26 l0 x5_1).f1) (wrap64 (x1_1+1)) t220 _ ?side1 ?side2 A6.1).mono ?_);(case side1=>repeat(first|exact HR219_1.1|(with_reducible refine Kd.C_alloc ?_ _)|(with_reducible refine Kd.C_drewN ?_ _)|(with_reducible refine Kd.C_drew ?_)));(case side2=>exact HC219_1.1);rintro e w' ⟨rfl,⟨nd,rfl⟩⟩;refine⟨_,rfl,?_⟩));go_ret;exact⟨by first|rfl|(simp;done)|(simp [*];done),by repeat(first|exact Drawn0.refl _|apply Drawn0.step)⟩
            · rw [if_neg c7] at H
              have c7b0:decide (t220<0)=false:=decide_eq_false c7;clear c7;have H':=qAm H;clear H;have p218:0≤(x5_1:Int):=of_decide_eq_true qB36;have q218:x5_1<(l0.length:Int):=of_decide_eq_true qB36;obtain⟨ad218,A218_1,c218_1,e218,hx218_0,hx218_1,hl218_1,hi218_1⟩:=at_T26 HR0.1 x5_1 p218 q218;cases e218
              have HR218_1:=qAm hi218_1;have HC218_1:=qAm hl218_1;clear hi218_1 hl218_1;replace p218:=eq_true p218;replace q218:=eq_true q218;have p219:0≤(x5_1:Int):=of_decide_eq_true qB36;have q219:x5_1<(l0.length:Int):=of_decide_eq_true qB36;obtain⟨ad219,A219_1,c219_1,e219,hx219_0,hx219_1,hl219_1,hi219_1⟩:=at_T26 HR0.1 x5_1 p219 q219;obtain rfl:ad218=ad219:=(by injection e219)
              have HR219_1:=qAm hi219_1;have HC219_1:=qAm hl219_1;clear hi219_1 hl219_1;replace p219:=eq_true p219;replace q219:=eq_true q219;have ea_:=Option.some.inj (hx218_1.symm.trans hx219_1);injection ea_ with ea_ en_ ec_
              subst ea_;subst ec_;clear en_;go_wp2_with (first|((with_reducible refine gate_callee (f:=34) rfl ?_);refine goesL_ (some 27) rfl rfl Try.func34 (by kernel_rfl) rfl #[.slice A218_1 ((rd_T26 l0 x5_1).f1).length c218_1,.int .i64 (wrap64 (x1_1+1))] rfl qB15 ?_;(with_reducible refine(laws_heldInt64S.calls k1 _ _ ((rd_T26 l0 x5_1).f1) (wrap64 (x1_1+1)) t220 _ ?side1 ?side2 A6.1).mono ?_);(case side1=>repeat(first|exact HR219_1.1|(with_reducible refine Kd.C_alloc ?_ _)|(with_reducible refine Kd.C_drewN ?_ _)|(with_reducible refine Kd.C_drew ?_)));(case side2=>exact HC219_1.1);rintro e w' ⟨rfl,⟨nd,rfl⟩⟩;refine⟨_,rfl,?_⟩))
              (first|go_roundg k1|((try simp only [add_plain] at *);go_roundg k1))
              case measure=>have:=HK1.1;omega
              case rel=>exact⟨(t220),(wrap64 (x5_1+1)),qB37,qB37,H',⟨by have:=HK1.1;omega⟩,by repeat(first|exact Drawn0.refl _|apply Drawn0.step)⟩
          · rw [if_neg c5] at H
            have c5b0:(((rd_T26 l0 x5_1).f0)==x1_1)=false:=beq_eq_false_iff_ne.mpr c5;have c5b1:(((rd_T26 l0 x5_1).f0) !=x1_1)=true:=bne_iff_ne.mpr c5;obtain rfl:=Option.some.inj H;have p218:0≤(x5_1:Int):=of_decide_eq_true qB36;have q218:x5_1<(l0.length:Int):=of_decide_eq_true qB36;obtain⟨ad218,A218_1,c218_1,e218,hx218_0,hx218_1,hl218_1,hi218_1⟩:=at_T26 HR0.1 x5_1 p218 q218;cases e218
            have HR218_1:=qAm hi218_1;have HC218_1:=qAm hl218_1;clear hi218_1 hl218_1;replace p218:=eq_true p218;replace q218:=eq_true q218;go_wp2;go_ret;exact⟨by first|rfl|(simp;done)|(simp [*];done),by repeat(first|exact Drawn0.refl _|apply Drawn0.step)⟩
        · rw [if_neg c4] at H
          exact absurd H (by simp)
      · rw [if_neg c3] at H
        have c3b0:decide (x5_1<(l0.length:Int))=false:=decide_eq_false c3;clear c3;obtain rfl:=Option.some.inj H;go_wp2;go_ret;exact⟨by first|rfl|(simp;done)|(simp [*];done),by repeat(first|exact Drawn0.refl _|apply Drawn0.step)⟩

/-! ### laws_markCS_A: function 99 -/
-- HAND
def laws_markCS_A.f (l0:List (S26)) (a1:Int):Option ((List (S26))):=if l0.length≤1000000∧l0.all (fun x=>decide (x.f1.length≤1000000)) then some (nMarkC l0 a1).2 else none

/-! ### laws_markCS_B: function 100 -/
-- HAND
def laws_markCS_B.f (l0:List (S26)) (a1:Int):Option (Int):=if l0.length≤1000000∧l0.all (fun x=>decide (x.f1.length≤1000000)) then some (nMarkC l0 a1).1 else none

/-! ### laws_FnExactPrimesOfNorm: function 6 -/
-- HAND
theorem nMarkC_bothN {G:Nat→Prop} {w0 w:World} {u v:Value} {l s l2:List S26} {a n:Int} (hb:laws_markCS_B.f l a=some n) (ha:laws_markCS_A.f l a=some l2) (hB:Below w0.heap.size w0 w)
    (hN:∃N,w0.heap.size≤N∧Kd.N k26 26 w w0.heap.size (fun k=>k<N) v s∧Kd.S k26 26 w N (fun _=>True) u l∧G N):
    Calls Try.prog 21 #[u,.int .i64 a] w fun e w'=>e=.returned (.int .i64 n)∧(∃N,G N∧Kept w w' (fun k=>N≤k))∧Kd.N k26 26 w' w0.heap.size (fun k=>some k≠u.ownBlock) v s∧Kd.S k26 26 w' w0.heap.size (fun k=>some k≠v.ownBlock) u l2∧Below w0.heap.size w0 w':=by
  obtain⟨N,h0,hs,hu,hG⟩:=hN;unfold laws_markCS_B.f at hb;unfold laws_markCS_A.f at ha
  by_cases c:l.length≤1000000∧l.all (fun x=>decide (x.f1.length≤1000000))=true
  · rw [if_pos c] at hb ha
    obtain rfl:=Option.some.inj hb;obtain rfl:=Option.some.inj ha;have hu2:Kd.S k26 26 w w0.heap.size (fun k=>N≤k) u l:=Kd.S_lower (Kd.S_mono (Kd.S_bound hu) (fun k hk=>hk.2.1)) h0;refine(nMarkC_calls w0 w _ u l a hB hu2 c.1 (fun x hx=>by simpa using List.all_eq_true.mp c.2 x hx)).mono ?_;rintro e w' ⟨rfl,h1,h2,h3⟩;refine⟨rfl,⟨N,hG,h3⟩,Kd.N_mono (Kd.N_step hs (fun k hk hlt=>h3.2 k hlt (fun h=>by omega))) (fun k hk he=>?_),Kd.S_mono h1 (fun k hk he=>?_),h2⟩
    · have:=Kd.S_base hu k he.symm
      omega
    · have:=hs.1 k he.symm
      omega
  · rw [if_neg c] at hb
    cases hb
mutual
def laws_FnExactPrimesOfNorm.j0:Nat→Int→List (S26)→Int→List (S26)→Bool→Option (Bool)
  |0,_,_,_,_,_=>none
  |k+1,x0,x3,x4,x5,x29=>if x29=true then (some false) else ((laws_markCS_B.f x5 1).bind fun t233=>((laws_markCS_A.f x5 1).bind fun t234=>((laws_heldCycloS.f k t234 1).bind fun t237=>(if t237<0 then (some false) else (if t237=t233 then ((impl_PrimesOfNorm.f k x0).bind fun bt238=>((laws_eqCycloS.f k bt238.1 x3).bind fun t242=>(if t242=true then (laws_FnExactPrimesOfNorm.j1 k t234 t233 (bt238.2 !=x4)) else (laws_FnExactPrimesOfNorm.j1 k t234 t233 true)))) else (some false))))))
def laws_FnExactPrimesOfNorm.j1:Nat→List (S26)→Int→Bool→Option (Bool)
  |0,_,_,_=>none
  |k+1,x5,x7,x54=>if x54=true then (some false) else ((laws_heldCycloS.f k x5 1).bind fun t243=>(if t243<0 then (some false) else (if t243=x7 then (some true) else (some false))))
end
def laws_FnExactPrimesOfNorm.f (k:Nat) (a0:Int):Option (Bool):=(spec_PrimesOfNorm.f k a0).bind fun bt224=>((impl_PrimesOfNorm.f k a0).bind fun bt228=>((laws_eqCycloS.f k bt228.1 bt224.1).bind fun t232=>(if t232=true then (laws_FnExactPrimesOfNorm.j0 k a0 bt224.1 bt224.2 bt228.1 (bt228.2 !=bt224.2)) else (laws_FnExactPrimesOfNorm.j0 k a0 bt224.1 bt224.2 bt228.1 true))))
theorem laws_FnExactPrimesOfNorm.mono_l:∀k,(∀y0 y1 y2 y3 y4,LeO (laws_FnExactPrimesOfNorm.j0 k y0 y1 y2 y3 y4) (laws_FnExactPrimesOfNorm.j0 (k+1) y0 y1 y2 y3 y4))∧(∀y0 y1 y2,LeO (laws_FnExactPrimesOfNorm.j1 k y0 y1 y2) (laws_FnExactPrimesOfNorm.j1 (k+1) y0 y1 y2))
  |0=>⟨fun _ _ _ _ _ r h=>by simp [laws_FnExactPrimesOfNorm.j0] at h,fun _ _ _ r h=>by simp [laws_FnExactPrimesOfNorm.j1] at h⟩
  |k+1=>by
    obtain⟨ih0,ih1⟩:=laws_FnExactPrimesOfNorm.mono_l k;refine⟨?_,?_⟩
    · intro y0 y1 y2 y3 y4
      unfold laws_FnExactPrimesOfNorm.j0;repeat' first
      |(with_reducible exact ih0 _ _ _ _ _)
      |(with_reducible exact ih1 _ _ _)
      |(with_reducible exact impl_PrimesOfNorm.mono _ _)
      |(with_reducible exact laws_eqCycloS.mono _ _ _)
      |(with_reducible exact laws_heldCycloS.mono _ _ _)
      |(with_reducible exact spec_PrimesOfNorm.mono _ _)
      |(with_reducible exact LeO.refl _)
      |(with_reducible exact LeO.none _)
      |(with_reducible refine LeO.ite ?_ ?_)
      |(with_reducible refine LeO.bind ?_ (fun _=>?_))
      |exact ih0 _ _ _ _ _
      |exact ih1 _ _ _
      |exact impl_PrimesOfNorm.mono _ _
      |exact laws_eqCycloS.mono _ _ _
      |exact laws_heldCycloS.mono _ _ _
      |exact spec_PrimesOfNorm.mono _ _
      |exact LeO.none _
      |refine LeO.ite ?_ ?_
      |refine LeO.bind ?_ (fun _=>?_)
    · intro y0 y1 y2
      unfold laws_FnExactPrimesOfNorm.j1;repeat' first
      |(with_reducible exact ih0 _ _ _ _ _)
      |(with_reducible exact ih1 _ _ _)
      |(with_reducible exact impl_PrimesOfNorm.mono _ _)
      |(with_reducible exact laws_eqCycloS.mono _ _ _)
      |(with_reducible exact laws_heldCycloS.mono _ _ _)
      |(with_reducible exact spec_PrimesOfNorm.mono _ _)
      |(with_reducible exact LeO.refl _)
      |(with_reducible exact LeO.none _)
      |(with_reducible refine LeO.ite ?_ ?_)
      |(with_reducible refine LeO.bind ?_ (fun _=>?_))
      |exact ih0 _ _ _ _ _
      |exact ih1 _ _ _
      |exact impl_PrimesOfNorm.mono _ _
      |exact laws_eqCycloS.mono _ _ _
      |exact laws_heldCycloS.mono _ _ _
      |exact spec_PrimesOfNorm.mono _ _
      |exact LeO.none _
      |refine LeO.ite ?_ ?_
      |refine LeO.bind ?_ (fun _=>?_)
theorem laws_FnExactPrimesOfNorm.mono:∀a0 k,LeO (laws_FnExactPrimesOfNorm.f k a0) (laws_FnExactPrimesOfNorm.f (k+1) a0):=by
  intro a0 k;obtain⟨ih0,ih1⟩:=laws_FnExactPrimesOfNorm.mono_l k;unfold laws_FnExactPrimesOfNorm.f;repeat' first
      |(with_reducible exact ih0 _ _ _ _ _)
      |(with_reducible exact ih1 _ _ _)
      |(with_reducible exact impl_PrimesOfNorm.mono _ _)
      |(with_reducible exact laws_eqCycloS.mono _ _ _)
      |(with_reducible exact laws_heldCycloS.mono _ _ _)
      |(with_reducible exact spec_PrimesOfNorm.mono _ _)
      |(with_reducible exact LeO.refl _)
      |(with_reducible exact LeO.none _)
      |(with_reducible refine LeO.ite ?_ ?_)
      |(with_reducible refine LeO.bind ?_ (fun _=>?_))
      |exact ih0 _ _ _ _ _
      |exact ih1 _ _ _
      |exact impl_PrimesOfNorm.mono _ _
      |exact laws_eqCycloS.mono _ _ _
      |exact laws_heldCycloS.mono _ _ _
      |exact spec_PrimesOfNorm.mono _ _
      |exact LeO.none _
      |refine LeO.ite ?_ ?_
      |refine LeO.bind ?_ (fun _=>?_)
-- HAND
-- TRUE ALONE
theorem laws_FnExactPrimesOfNorm.j0_no (k:Nat) (y0:Int) (y1:List (S26)) (y2:Int) (y3:List (S26)) (h:laws_FnExactPrimesOfNorm.j0 k y0 y1 y2 y3 true=some true):False:=by
  cases k with
  |zero=>first|(simp only [laws_FnExactPrimesOfNorm.j0] at h;done)|(simp only [laws_FnExactPrimesOfNorm.j0] at h;cases h)
  |succ k=>rw [laws_FnExactPrimesOfNorm.j0,if_pos rfl] at h;cases h
theorem laws_FnExactPrimesOfNorm.j1_no (k:Nat) (y0:List (S26)) (y1:Int) (h:laws_FnExactPrimesOfNorm.j1 k y0 y1 true=some true):False:=by
  cases k with
  |zero=>first|(simp only [laws_FnExactPrimesOfNorm.j1] at h;done)|(simp only [laws_FnExactPrimesOfNorm.j1] at h;cases h)
  |succ k=>rw [laws_FnExactPrimesOfNorm.j1,if_pos rfl] at h;cases h
set_option maxHeartbeats 8000000 in
set_option maxRecDepth 100000 in
theorem laws_FnExactPrimesOfNorm.calls (k:Nat) (a0:Int) (w:World) (h:laws_FnExactPrimesOfNorm.f k a0=some true):
    Calls Try.prog 6 #[.int .i64 a0] w fun e w'=>e=.returned (.bool true)∧Below w.heap.size w w':=by
  have HB:=qAm (Below.refl w.heap.size w);have H:((spec_PrimesOfNorm.f k a0).bind fun bt224=>((impl_PrimesOfNorm.f k a0).bind fun bt228=>((laws_eqCycloS.f k bt228.1 bt224.1).bind fun t232=>(if t232=true then (laws_FnExactPrimesOfNorm.j0 k a0 bt224.1 bt224.2 bt228.1 (bt228.2 !=bt224.2)) else (laws_FnExactPrimesOfNorm.j0 k a0 bt224.1 bt224.2 bt228.1 true)))))=some true:=h;clear h;replace H:=qOb H;obtain⟨⟨t224,t227⟩,A20,H⟩:=H;replace H:((impl_PrimesOfNorm.f k a0).bind fun bt228=>((laws_eqCycloS.f k bt228.1 t224).bind fun t232=>(if t232=true then (laws_FnExactPrimesOfNorm.j0 k a0 t224 t227 bt228.1 (bt228.2 !=t227)) else (laws_FnExactPrimesOfNorm.j0 k a0 t224 t227 bt228.1 true))))=some true:=H;have A2:=qAm A20;clear A20;replace H:=qOb H;obtain⟨⟨t228,t229⟩,A30,H⟩:=H;replace H:((laws_eqCycloS.f k t228 t224).bind fun t232=>(if t232=true then (laws_FnExactPrimesOfNorm.j0 k a0 t224 t227 t228 (t229 !=t227)) else (laws_FnExactPrimesOfNorm.j0 k a0 t224 t227 t228 true)))=some true:=H;have A3:=qAm A30;clear A30;have HC4:=qAm H;clear H;go_enter Try.func6,Try.ntmps6;go_upto_region 3 with (first|((with_reducible refine gate_callee (f:=18) rfl ?_);refine goesL_ (some 13) rfl rfl Try.func18 (by kernel_rfl) rfl #[.int .i64 a0] rfl qB15 ?_;(with_reducible refine(spec_PrimesOfNorm.calls k a0 t224 t227 _ A2.1).mono ?_);rintro e w5 ⟨v225,rfl,ho0,hb⟩;refine⟨_,rfl,?_⟩;have n0_:=qAm (Kd.N_lower (Kd.N_mono (ok':=fun k_=>True) ho0 (fun k_ hk_=>trivial)) (below_size qB16));have n1_:=qAm (below_step qB16 hb);clear HB;have HO226:=n0_;have HB:=n1_;clear n0_ n1_;(try clear hb);(try clear hb2);(try clear hk);(try clear hi);(try clear ho0))|((with_reducible refine gate_callee (f:=19) rfl ?_);refine goesL_ (some 18) rfl rfl Try.func19 (by kernel_rfl) rfl #[.int .i64 a0] rfl qB15 ?_;(with_reducible refine(impl_PrimesOfNorm.calls k a0 t228 t229 _ A3.1).mono ?_);rintro e w6 ⟨v230,rfl,ho0,hb⟩;refine⟨_,rfl,?_⟩;have HNN:=qAm (show ∃N_,w.heap.size≤N_∧Kd.N k26 26 _ w.heap.size (fun k_=>k_<N_) v225 t224∧Kd.S k26 26 _ N_ (fun _=>True) v230 t228∧(True) from ⟨_,below_size qB16,Kd.N_mono (Kd.N_old qB28 hb) (fun _ hk=>hk.2),ho0,trivial⟩);have n0_:=qAm (Kd.N_elder' qB28 (Kd.S_base ho0) hb);have n1_:=qAm (Kd.N_lower (Kd.N_mono (ok':=fun k_=>some k_≠(v225:Value).ownBlock) (Kd.S_N (Kd.S_bound ho0)) (fun k_ hk_=>(Kd.fresh' (Kd.N_lt qB28) k_ hk_.2.1))) (below_size qB16));have n2_:=qAm (below_step qB16 hb);clear HO226;clear HB;have HO226:=n0_;have HO231:=n1_;have HB:=n2_;clear n0_ n1_ n2_;(try clear hb);(try clear hb2);(try clear hk);(try clear hi);(try clear ho0)))
  (try simp only [Act.put,qSa,qSb,qSc])
  go_cut [29] (fun v29 wc=>∃(kq:Nat) (x29_3:Bool),v29=.bool x29_3∧Aside0 (laws_FnExactPrimesOfNorm.j0 kq a0 t224 t227 t228 x29_3=some true)∧Aside0 (kq≤k)∧Aside0 (Kd.N k26 26 wc w.heap.size (fun k_=>some k_≠(v230:Value).ownBlock) v225 t224)∧Aside0 (Kd.N k26 26 wc w.heap.size (fun k_=>some k_≠(v225:Value).ownBlock) v230 t228)∧Aside0 (Below w.heap.size w wc)∧Aside0 (∃N_,w.heap.size≤N_∧Kd.N k26 26 wc w.heap.size (fun k_=>k_<N_) v225 t224∧Kd.S k26 26 wc N_ (fun _=>True) v230 t228∧(True)))
  case first=>
    have H:=HC4.1;clear HC4;replace H:=qOb H;obtain⟨t232,A70,H⟩:=H;replace H:(if t232=true then (laws_FnExactPrimesOfNorm.j0 k a0 t224 t227 t228 (t229 !=t227)) else (laws_FnExactPrimesOfNorm.j0 k a0 t224 t227 t228 true))=some true:=H;have A7:=qAm A70;clear A70
    by_cases c8:t232=true
    · subst c8
      have H1:(laws_FnExactPrimesOfNorm.j0 k a0 t224 t227 t228 (t229 !=t227))=some true:=by rw [if_pos rfl] at H;exact H
      clear H;have H:=H1;clear H1;have H':=qAm H;clear H;obtain⟨Ao9,co9,eo9⟩:=Kd.N_slice HO231.1;subst eo9;obtain⟨Ao10,co10,eo10⟩:=Kd.N_slice HO226.1;subst eo10;go_wp2_with (first|((with_reducible refine gate_callee (f:=20) rfl ?_);refine goesL_ (some 23) rfl rfl Try.func20 (by kernel_rfl) rfl #[.slice Ao9 t228.length co9,.slice Ao10 t224.length co10] rfl qB15 ?_;(with_reducible refine(laws_eqCycloS.calls k _ _ t228 _ _ t224 true _ ?side1 ?side2 ?side3 ?side4 A7.1).mono ?_);(case side1=>repeat(first|exact(Kd.N_reads' HO231.1).2.2|(with_reducible refine Kd.C_alloc ?_ _)|(with_reducible refine Kd.C_drewN ?_ _)|(with_reducible refine Kd.C_drew ?_)));(case side2=>exact(Kd.N_reads' HO231.1).2.1);(case side3=>repeat(first|exact(Kd.N_reads' HO226.1).2.2|(with_reducible refine Kd.C_alloc ?_ _)|(with_reducible refine Kd.C_drewN ?_ _)|(with_reducible refine Kd.C_drew ?_)));(case side4=>exact(Kd.N_reads' HO226.1).2.1);rintro e w11 ⟨rfl,hb⟩;refine⟨_,rfl,?_⟩;have HNN2:=qAm (show ∃N_,w.heap.size≤N_∧Kd.N k26 26 w11 w.heap.size (fun k_=>k_<N_) _ t224∧Kd.S k26 26 w11 N_ (fun _=>True) _ t228∧(True) from by obtain⟨N_,h0_,h1_,h2_,hG_⟩:=HNN.1;exact⟨N_,h0_,Kd.N_below (by (with_reducible repeat(first|apply Kd.N_alloc|apply Kd.N_drewN|apply Kd.N_drew));exact h1_) hb,Kd.S_below (by (with_reducible repeat(first|apply Kd.S_alloc|apply Kd.S_drewN|apply Kd.S_drew));exact h2_) hb,hG_⟩);clear HNN;have HNN:=HNN2;clear HNN2;have n0_:=qAm (Kd.N_below qB28 hb);have n1_:=qAm (Kd.N_below (by (with_reducible repeat(first|apply Kd.N_alloc|apply Kd.N_drewN|apply Kd.N_drew));exact HO231.1) hb);have n2_:=qAm (below_step qB16 hb);clear HO226;clear HO231;clear HB;have HO226:=n0_;have HO231:=n1_;have HB:=n2_;clear n0_ n1_ n2_;(try clear hb);(try clear hb2);(try clear hk);(try clear hi)));go_meet
      case rel=>exact⟨_,((t229 !=t227)),qB37,H',⟨by first|omega|exact Nat.le_refl _⟩,⟨by (with_reducible repeat(first|apply Kd.N_alloc|apply Kd.N_drewN|apply Kd.N_drew));exact Kd.N_mono HO226.1 (fun _ hk=>hk.2)⟩,⟨by (with_reducible repeat(first|apply Kd.N_alloc|apply Kd.N_drewN|apply Kd.N_drew));exact HO231.1⟩,⟨by repeat(first|(with_reducible first|exact HB.1|apply below_alloc|apply pw_below_drewN|apply below_drew1)|exact HB.1)⟩,⟨by obtain⟨N_,h0_,h1_,h2_,hG_⟩:=HNN.1;exact⟨N_,h0_,by (with_reducible repeat(first|apply Kd.N_alloc|apply Kd.N_drewN|apply Kd.N_drew));exact h1_,by (with_reducible repeat(first|apply Kd.S_alloc|apply Kd.S_drewN|apply Kd.S_drew));exact h2_,hG_⟩⟩⟩
    · replace c8:=Bool.eq_false_iff.mpr c8
      subst c8;have H1:(laws_FnExactPrimesOfNorm.j0 k a0 t224 t227 t228 true)=some true:=by rw [if_neg (show ¬(false=true) by decide)] at H;exact H
      exact(laws_FnExactPrimesOfNorm.j0_no _ _ _ _ _ H1).elim
  case rest=>
    clear HC4;try clear c1
    try clear c2
    try clear p2
    try clear c6
    try clear c8
    obtain⟨kq,x29_3,rfl,HA,HJ3,HO_3,HO_5,HB,HNN⟩:=hcut;cases kq with
    |zero=>exact absurd HA.1 (by simp [laws_FnExactPrimesOfNorm.j0])
    |succ kj3=>
      have H:=HA.1;clear HA;simp only [laws_FnExactPrimesOfNorm.j0] at H
      by_cases c15:x29_3=true
      · subst c15
        have H1:(some false)=some true:=by rw [if_pos rfl] at H;exact H
        cases H1
      · replace c15:=Bool.eq_false_iff.mpr c15
        subst c15;have H1:((laws_markCS_B.f t228 1).bind fun t233=>((laws_markCS_A.f t228 1).bind fun t234=>((laws_heldCycloS.f kj3 t234 1).bind fun t237=>(if t237<0 then (some false) else (if t237=t233 then ((impl_PrimesOfNorm.f kj3 a0).bind fun bt238=>((laws_eqCycloS.f kj3 bt238.1 t224).bind fun t242=>(if t242=true then (laws_FnExactPrimesOfNorm.j1 kj3 t234 t233 (bt238.2 !=t227)) else (laws_FnExactPrimesOfNorm.j1 kj3 t234 t233 true)))) else (some false))))))=some true:=by rw [if_neg (show ¬(false=true) by decide)] at H;exact H
        clear H;have H:=H1;clear H1;replace H:=qOb H;obtain⟨t233,A160,H⟩:=H;replace H:((laws_markCS_A.f t228 1).bind fun t234=>((laws_heldCycloS.f kj3 t234 1).bind fun t237=>(if t237<0 then (some false) else (if t237=t233 then ((impl_PrimesOfNorm.f kj3 a0).bind fun bt238=>((laws_eqCycloS.f kj3 bt238.1 t224).bind fun t242=>(if t242=true then (laws_FnExactPrimesOfNorm.j1 kj3 t234 t233 (bt238.2 !=t227)) else (laws_FnExactPrimesOfNorm.j1 kj3 t234 t233 true)))) else (some false)))))=some true:=H;have A16:=qAm A160;clear A160;replace H:=qOb H;obtain⟨t234,A170,H⟩:=H;replace H:((laws_heldCycloS.f kj3 t234 1).bind fun t237=>(if t237<0 then (some false) else (if t237=t233 then ((impl_PrimesOfNorm.f kj3 a0).bind fun bt238=>((laws_eqCycloS.f kj3 bt238.1 t224).bind fun t242=>(if t242=true then (laws_FnExactPrimesOfNorm.j1 kj3 t234 t233 (bt238.2 !=t227)) else (laws_FnExactPrimesOfNorm.j1 kj3 t234 t233 true)))) else (some false))))=some true:=H;have A17:=qAm A170;clear A170;replace H:=qOb H;obtain⟨t237,A180,H⟩:=H;replace H:(if t237<0 then (some false) else (if t237=t233 then ((impl_PrimesOfNorm.f kj3 a0).bind fun bt238=>((laws_eqCycloS.f kj3 bt238.1 t224).bind fun t242=>(if t242=true then (laws_FnExactPrimesOfNorm.j1 kj3 t234 t233 (bt238.2 !=t227)) else (laws_FnExactPrimesOfNorm.j1 kj3 t234 t233 true)))) else (some false)))=some true:=H;have A18:=qAm A180;clear A180
        by_cases c19:t237<0
        · rw [if_pos c19] at H
          cases H
        · rw [if_neg c19] at H
          have c19b0:decide (t237<0)=false:=decide_eq_false c19;clear c19
          by_cases c23:t237=t233
          · rw [if_pos c23] at H
            have c23b0:(t237==t233)=true:=beq_iff_eq.mpr c23;have c23b1:(t237 !=t233)=false:=bne_eq_false_iff_eq.mpr c23;clear c23;replace H:=qOb H;obtain⟨⟨t238,t239⟩,A240,H⟩:=H;replace H:((laws_eqCycloS.f kj3 t238 t224).bind fun t242=>(if t242=true then (laws_FnExactPrimesOfNorm.j1 kj3 t234 t233 (t239 !=t227)) else (laws_FnExactPrimesOfNorm.j1 kj3 t234 t233 true)))=some true:=H;have A24:=qAm A240;clear A240;have HC25:=qAm H;clear H;obtain⟨Ao26,co26,eo26⟩:=Kd.N_slice HO_5.1;subst eo26;go_upto_region 14 with (first|((with_reducible refine gate_callee (f:=21) rfl ?_);refine goesL_ (some 32) rfl rfl Try.func21 (by kernel_rfl) rfl #[.slice Ao26 t228.length co26,.int .i64 1] rfl qB15 ?_;refine(nMarkC_bothN A16.1 A17.1 qB16 (by obtain⟨N_,h0_,h1_,h2_,hG_⟩:=HNN.1;exact⟨N_,h0_,by (with_reducible repeat(first|apply Kd.N_alloc|apply Kd.N_drewN|apply Kd.N_drew));exact h1_,by (with_reducible repeat(first|apply Kd.S_alloc|apply Kd.S_drewN|apply Kd.S_drew));exact h2_,hG_⟩)).mono ?_;rintro e w27 ⟨rfl,hg_,h1_,h2_,h3_⟩;refine⟨_,rfl,?_⟩;obtain⟨v235,hv_⟩:∃v_:Value,v_=.slice Ao26 t228.length co26:=⟨_,rfl⟩;(try rw [← hv_]);have n0_:=qAm (show Kd.N k26 26 w27 w.heap.size (fun k_=>some k_≠(.slice Ao26 t228.length co26:Value).ownBlock∧some k_≠(v235:Value).ownBlock) _ t224 from Kd.N_mono h1_ (fun k_ hk_=>⟨hk_,by rw [hv_];exact hk_⟩));have n2_:=qAm (show Kd.N k26 26 w27 w.heap.size (fun k_=>some k_≠(_:Value).ownBlock∧True) v235 t234 from Kd.N_mono (by rw [hv_];exact Kd.S_N h2_) (fun k_ hk_=>⟨hk_,trivial⟩));have n1_:=qAm (show Kd.N k26 26 w27 w.heap.size (fun k_=>some k_≠(_:Value).ownBlock∧True) (.slice Ao26 t228.length co26) t234 from Kd.N_mono (Kd.S_N h2_) (fun k_ hk_=>⟨hk_,trivial⟩));have n3_:=qAm h3_;clear hg_;clear HO_3 HO_5 HB;have HO_3:=n0_;have HO_5:=n1_;have HO236:=n2_;have HB:=n3_;clear n0_ n1_ n2_ n3_ h1_ h2_ h3_ hv_;obtain⟨Ao28,co28,eo28⟩:=Kd.N_slice HO236.1;subst eo28)|((with_reducible refine gate_callee (f:=22) rfl ?_);refine goesL_ (some 35) rfl rfl Try.func22 (by kernel_rfl) rfl #[.slice Ao28 t234.length co28,.int .i64 1] rfl qB15 ?_;(with_reducible refine(laws_heldCycloS.calls kj3 _ _ t234 1 t237 _ ?side1 ?side2 A18.1).mono ?_);(case side1=>repeat(first|exact(Kd.N_reads' HO236.1).2.2|(with_reducible refine Kd.C_alloc ?_ _)|(with_reducible refine Kd.C_drewN ?_ _)|(with_reducible refine Kd.C_drew ?_)));(case side2=>exact(Kd.N_reads' HO236.1).2.1);rintro e w' ⟨rfl,⟨nd,rfl⟩⟩;refine⟨_,rfl,?_⟩)|((with_reducible refine gate_callee (f:=19) rfl ?_);refine goesL_ (some 43) rfl rfl Try.func19 (by kernel_rfl) rfl #[.int .i64 a0] rfl qB15 ?_;(with_reducible refine(impl_PrimesOfNorm.calls kj3 a0 t238 t239 _ A24.1).mono ?_);rintro e w29 ⟨v240,rfl,ho0,hb⟩;refine⟨_,rfl,?_⟩;have n0_:=qAm (Kd.N_elder' qB35 (Kd.S_base ho0) hb);have n1_:=qAm (Kd.N_elder' qB32 (Kd.S_base ho0) hb);have n2_:=qAm (Kd.N_elder' qB29 (Kd.S_base ho0) hb);have n3_:=qAm (Kd.N_lower (Kd.N_mono (ok':=fun k_=>some k_≠(v225:Value).ownBlock∧some k_≠(.slice Ao26 t228.length co26:Value).ownBlock∧some k_≠(.slice Ao28 t234.length co28:Value).ownBlock) (Kd.S_N (Kd.S_bound ho0)) (fun k_ hk_=>⟨(Kd.fresh' (Kd.N_lt qB35) k_ hk_.2.1),(Kd.fresh' (Kd.N_lt qB32) k_ hk_.2.1),(Kd.fresh' (Kd.N_lt qB29) k_ hk_.2.1)⟩)) (below_size qB16));have n4_:=qAm (below_step qB16 hb);clear HO_3;clear HO_5;clear HO236;clear HB;have HO_3:=n0_;have HO_5:=n1_;have HO236:=n2_;have HO241:=n3_;have HB:=n4_;clear n0_ n1_ n2_ n3_ n4_;(try clear hb);(try clear hb2);(try clear hk);(try clear hi);(try clear ho0)))
            (try simp only [Act.put,qSa,qSb,qSc])
            go_cut [54] (fun v54 wc=>∃(kq:Nat) (x54_24:Bool),v54=.bool x54_24∧Aside0 (laws_FnExactPrimesOfNorm.j1 kq t234 t233 x54_24=some true)∧Aside0 (kq≤kj3)∧Aside0 (Kd.N k26 26 wc w.heap.size (fun _=>True) (.slice Ao28 t234.length co28) t234)∧Aside0 (Below w.heap.size w wc))
            case first=>
              have H:=HC25.1;clear HC25;replace H:=qOb H;obtain⟨t242,A300,H⟩:=H;replace H:(if t242=true then (laws_FnExactPrimesOfNorm.j1 kj3 t234 t233 (t239 !=t227)) else (laws_FnExactPrimesOfNorm.j1 kj3 t234 t233 true))=some true:=H;have A30:=qAm A300;clear A300
              by_cases c31:t242=true
              · subst c31
                have H1:(laws_FnExactPrimesOfNorm.j1 kj3 t234 t233 (t239 !=t227))=some true:=by rw [if_pos rfl] at H;exact H
                clear H;have H:=H1;clear H1;have H':=qAm H;clear H;obtain⟨Ao32,co32,eo32⟩:=Kd.N_slice HO241.1;subst eo32;obtain⟨Ao33,co33,eo33⟩:=Kd.N_slice HO_3.1;subst eo33;go_wp2_with (first|((with_reducible refine gate_callee (f:=20) rfl ?_);refine goesL_ (some 48) rfl rfl Try.func20 (by kernel_rfl) rfl #[.slice Ao32 t238.length co32,.slice Ao33 t224.length co33] rfl qB15 ?_;(with_reducible refine(laws_eqCycloS.calls kj3 _ _ t238 _ _ t224 true _ ?side1 ?side2 ?side3 ?side4 A30.1).mono ?_);(case side1=>repeat(first|exact(Kd.N_reads' HO241.1).2.2|(with_reducible refine Kd.C_alloc ?_ _)|(with_reducible refine Kd.C_drewN ?_ _)|(with_reducible refine Kd.C_drew ?_)));(case side2=>exact(Kd.N_reads' HO241.1).2.1);(case side3=>repeat(first|exact(Kd.N_reads' HO_3.1).2.2|(with_reducible refine Kd.C_alloc ?_ _)|(with_reducible refine Kd.C_drewN ?_ _)|(with_reducible refine Kd.C_drew ?_)));(case side4=>exact(Kd.N_reads' HO_3.1).2.1);rintro e w34 ⟨rfl,hb⟩;refine⟨_,rfl,?_⟩;have n0_:=qAm (Kd.N_below qB35 hb);have n1_:=qAm (Kd.N_below qB32 hb);have n2_:=qAm (Kd.N_below qB29 hb);have n3_:=qAm (Kd.N_below (by (with_reducible repeat(first|apply Kd.N_alloc|apply Kd.N_drewN|apply Kd.N_drew));exact HO241.1) hb);have n4_:=qAm (below_step qB16 hb);clear HO_3;clear HO_5;clear HO236;clear HO241;clear HB;have HO_3:=n0_;have HO_5:=n1_;have HO236:=n2_;have HO241:=n3_;have HB:=n4_;clear n0_ n1_ n2_ n3_ n4_;(try clear hb);(try clear hb2);(try clear hk);(try clear hi)));go_meet
                case rel=>exact⟨_,((t239 !=t227)),qB37,H',⟨by have:=HJ3.1;first|omega|exact Nat.le_refl _⟩,⟨by (with_reducible repeat(first|apply Kd.N_alloc|apply Kd.N_drewN|apply Kd.N_drew));exact Kd.N_mono HO236.1 (fun _ hk=>trivial)⟩,⟨by repeat(first|(with_reducible first|exact HB.1|apply below_alloc|apply pw_below_drewN|apply below_drew1)|exact HB.1)⟩⟩
              · replace c31:=Bool.eq_false_iff.mpr c31
                subst c31;have H1:(laws_FnExactPrimesOfNorm.j1 kj3 t234 t233 true)=some true:=by rw [if_neg (show ¬(false=true) by decide)] at H;exact H
                exact(laws_FnExactPrimesOfNorm.j1_no _ _ _ H1).elim
            case rest=>
              clear HC25;try clear c1
              try clear c2
              try clear p2
              try clear c3
              try clear c6
              try clear c8
              try clear c9
              try clear c10
              try clear c15
              try clear c18
              try clear c19
              try clear c19b0
              try clear c20
              try clear c22
              try clear c23
              try clear c23b0
              try clear c23b1
              try clear c31
              try clear p2
              obtain⟨kq,x54_24,rfl,HA,HJ24,HO_5,HB⟩:=hcut;cases kq with
              |zero=>exact absurd HA.1 (by simp [laws_FnExactPrimesOfNorm.j1])
              |succ kj24=>
                have H:=HA.1;clear HA;simp only [laws_FnExactPrimesOfNorm.j1] at H
                by_cases c38:x54_24=true
                · subst c38
                  have H1:(some false)=some true:=by rw [if_pos rfl] at H;exact H
                  cases H1
                · replace c38:=Bool.eq_false_iff.mpr c38
                  subst c38;have H1:((laws_heldCycloS.f kj24 t234 1).bind fun t243=>(if t243<0 then (some false) else (if t243=t233 then (some true) else (some false))))=some true:=by rw [if_neg (show ¬(false=true) by decide)] at H;exact H
                  clear H;have H:=H1;clear H1;replace H:=qOb H;obtain⟨t243,A390,H⟩:=H;replace H:(if t243<0 then (some false) else (if t243=t233 then (some true) else (some false)))=some true:=H;have A39:=qAm A390;clear A390
                  by_cases c40:t243<0
                  · rw [if_pos c40] at H
                    cases H
                  · rw [if_neg c40] at H
                    have c40b0:decide (t243<0)=false:=decide_eq_false c40;clear c40
                    by_cases c41:t243=t233
                    · rw [if_pos c41] at H
                      have c41b0:(t243==t233)=true:=beq_iff_eq.mpr c41;have c41b1:(t243 !=t233)=false:=bne_eq_false_iff_eq.mpr c41;clear c41 H;go_wp2_with (first|((with_reducible refine gate_callee (f:=22) rfl ?_);refine goesL_ (some 57) rfl rfl Try.func22 (by kernel_rfl) rfl #[.slice Ao28 t234.length co28,.int .i64 1] rfl qB15 ?_;(with_reducible refine(laws_heldCycloS.calls kj24 _ _ t234 1 t243 _ ?side1 ?side2 A39.1).mono ?_);(case side1=>repeat(first|exact(Kd.N_reads' HO_5.1).2.2|(with_reducible refine Kd.C_alloc ?_ _)|(with_reducible refine Kd.C_drewN ?_ _)|(with_reducible refine Kd.C_drew ?_)));(case side2=>exact(Kd.N_reads' HO_5.1).2.1);rintro e w' ⟨rfl,⟨nd,rfl⟩⟩;refine⟨_,rfl,?_⟩));go_ret;exact⟨by first|rfl|(simp [errW_none,errW_some] <;> rfl)|(simp [*,errW_none,errW_some] <;> rfl),by repeat(first|(with_reducible first|exact HB.1|apply below_alloc|apply pw_below_drewN|apply below_drew1)|exact HB.1)⟩
                    · rw [if_neg c41] at H
                      cases H
          · rw [if_neg c23] at H
            cases H

/-- THE ONE PURE STATEMENT of laws_FnExactPrimesOfNorm: yours. -/
def laws_FnExactPrimesOfNorm.Pure:Prop:=∀(a0:Int),(Lit.int .i64 a0).wf=true→∃k,laws_FnExactPrimesOfNorm.f k a0=some true
theorem laws_FnExactPrimesOfNorm.walk (P:laws_FnExactPrimesOfNorm.Pure) (a0:Int) (w:World) (w0:(Lit.int .i64 a0).wf=true):
    Calls Try.prog 6 #[.int .i64 a0] w fun e w'=>e=.returned (.bool true)∧Below w.heap.size w w':=by
  obtain⟨k,h⟩:=P a0 w0;refine(laws_FnExactPrimesOfNorm.calls k a0 w h).mono ?_;rintro e w' ⟨rfl,hd⟩;exact⟨rfl,hd⟩

end Go.Proofs.Ytejpliodhnglbaa.PFnExactPrimesOfNorm
