/- The functions that the law reaches, as plain functions, each with the proof that the program comes to it; no condition. Written by a program of this session (wip/mp.py) over the printing of the kit; what is marked HAND is told by hand. -/
import Derived.Test.YtefhabkikaadiaaPFnExactPeriodPolynomialx0
namespace Go.Proofs.Ytefhabkikaadiaa.PFnExactPeriodPolynomial
open Go.RowKit Go.Proofs.YtefhabkikaadiaaW.PrintWords Go.Proofs.YtefhabkikaadiaaW.PrintLast Go.Proofs.YtefhabkikaadiaaW.PrintMore
attribute [local go_sem] max2_int min2_int max_two min_two max_three min_three max_four min_four   -- for this text's walks alone
set_option linter.unusedVariables false
set_option linter.unusedSimpArgs false

/-! ### laws_eqInt64S: function 13 -/
def laws_eqInt64S.l0:Nat→List Int→List Int→Int→Option (Bool)
  |0,_,_,_=>none
  |k+1,x0,x1,x5=>if x5<(x0.length:Int) then (if 0≤x5 then (if x5<(x1.length:Int) then (if (rd x0 x5)=(rd x1 x5) then (laws_eqInt64S.l0 k x0 x1 (wrap64 (x5+1))) else (some false)) else (none)) else (none)) else (some true)
def laws_eqInt64S.f (k:Nat) (l0:List Int) (l1:List Int):Option (Bool):=if (l0.length:Int)=(l1.length:Int) then (laws_eqInt64S.l0 k l0 l1 0) else (some false)
theorem laws_eqInt64S.mono_l:∀k,(∀y0 y1 y2,LeO (laws_eqInt64S.l0 k y0 y1 y2) (laws_eqInt64S.l0 (k+1) y0 y1 y2))
  |0=>fun _ _ _ r h=>by simp [laws_eqInt64S.l0] at h
  |k+1=>by
    have ih0:=laws_eqInt64S.mono_l k
    · intro y0 y1 y2
      unfold laws_eqInt64S.l0;repeat' first
      |(with_reducible exact ih0 _ _ _)
      |(with_reducible exact LeO.refl _)
      |(with_reducible exact LeO.none _)
      |(with_reducible refine LeO.ite ?_ ?_)
      |(with_reducible refine LeO.bind ?_ (fun _=>?_))
      |exact ih0 _ _ _
      |exact LeO.none _
      |refine LeO.ite ?_ ?_
      |refine LeO.bind ?_ (fun _=>?_)
theorem laws_eqInt64S.mono:∀a0 a1 k,LeO (laws_eqInt64S.f k a0 a1) (laws_eqInt64S.f (k+1) a0 a1):=by
  intro a0 a1 k;have ih0:=laws_eqInt64S.mono_l k;unfold laws_eqInt64S.f;repeat' first
      |(with_reducible exact ih0 _ _ _)
      |(with_reducible exact LeO.refl _)
      |(with_reducible exact LeO.none _)
      |(with_reducible refine LeO.ite ?_ ?_)
      |(with_reducible refine LeO.bind ?_ (fun _=>?_))
      |exact ih0 _ _ _
      |exact LeO.none _
      |refine LeO.ite ?_ ?_
      |refine LeO.bind ?_ (fun _=>?_)
set_option maxHeartbeats 8000000 in
set_option maxRecDepth 100000 in
theorem laws_eqInt64S.calls (k:Nat) (A0:Option Addr) (c0:Nat) (l0:List Int) (A1:Option Addr) (c1:Nat) (l1:List Int) (r:Bool) (w:World) (hr0:Kd.C (Kd.int .i64) w A0 l0.length l0) (hc0:l0.length≤c0) (hr1:Kd.C (Kd.int .i64) w A1 l1.length l1) (hc1:l1.length≤c1) (h:laws_eqInt64S.f k l0 l1=some r):
    Calls Try.prog 13 #[.slice A0 l0.length c0,.slice A1 l1.length c1] w fun e w'=>e=.returned (.bool r)∧Drawn0 w w':=by
  have HR0:=qAm hr0;have HC0:=qAm hc0;clear hr0 hc0;have HR1:=qAm hr1;have HC1:=qAm hc1;clear hr1 hc1;have H:(if (l0.length:Int)=(l1.length:Int) then (laws_eqInt64S.l0 k l0 l1 0) else (some false))=some r:=h;clear h
  by_cases c3:(l0.length:Int)=(l1.length:Int)
  · rw [if_pos c3] at H
    have c3b0:((l0.length:Int)==(l1.length:Int))=true:=beq_iff_eq.mpr c3;have c3b1:((l0.length:Int) !=(l1.length:Int))=false:=bne_eq_false_iff_eq.mpr c3;have c3b2:(l0.length==l1.length)=true:=by first|simpa using c3|(simp at c3 ⊢;omega)
    clear c3;have H':=qAm H;clear H;go_enter Try.func13,Try.ntmps13;go_wp2;repeat(go_quiet (fail);try go_wp2)
    try simp only [Act.put,qSa,qSc,qSb]
    go_loopg [5] k (fun kq v5 w'=>∃(x5_1:Int),v5=.int .i64 x5_1∧Aside0 (laws_eqInt64S.l0 kq l0 l1 x5_1=some r)∧Aside0 (kq≤k)∧Drawn0 w w')
    case atStart=>exact⟨(0),qB47,H',⟨Nat.le_refl _⟩,by repeat(first|exact Drawn0.refl _|apply Drawn0.step)⟩
    case round=>
      clear H';try clear c1
      try clear p2
      try clear c3
      try clear c3b0
      try clear c3b1
      try clear c3b2
      obtain⟨x5_1,rfl,HA,HK1,⟨m1,rfl⟩⟩:=hrel;cases gk with
      |zero=>exact absurd HA.1 (by simp [laws_eqInt64S.l0])
      |succ k1=>
        have H:=HA.1;clear HA;simp only [laws_eqInt64S.l0] at H
        by_cases c4:x5_1<(l0.length:Int)
        · rw [if_pos c4] at H
          have c4b0:decide (x5_1<(l0.length:Int))=true:=decide_eq_true c4;clear c4
          by_cases c5:0≤x5_1
          · rw [if_pos c5] at H
            have c5b0:decide (0≤x5_1)=true:=decide_eq_true c5;clear c5
            by_cases c6:x5_1<(l1.length:Int)
            · rw [if_pos c6] at H
              have c6b0:decide (x5_1<(l1.length:Int))=true:=decide_eq_true c6;clear c6
              by_cases c7:(rd l0 x5_1)=(rd l1 x5_1)
              · rw [if_pos c7] at H
                have c7b0:((rd l0 x5_1)==(rd l1 x5_1))=true:=beq_iff_eq.mpr c7;have c7b1:((rd l0 x5_1) !=(rd l1 x5_1))=false:=bne_eq_false_iff_eq.mpr c7;clear c7;have H':=qAm H;clear H;have p101:0≤(x5_1:Int):=of_decide_eq_true qB46;have q101:x5_1<(l0.length:Int):=of_decide_eq_true qB46;obtain⟨ad101,e101,hx101_0⟩:=Kd.at_int HR0.1 x5_1 p101 q101;cases e101
                replace p101:=eq_true p101;replace q101:=eq_true q101;have p102:0≤(x5_1:Int):=of_decide_eq_true qB46;have q102:x5_1<(l1.length:Int):=of_decide_eq_true qB46;obtain⟨ad102,e102,hx102_0⟩:=Kd.at_int HR1.1 x5_1 p102 q102;cases e102
                replace p102:=eq_true p102;replace q102:=eq_true q102;go_wp2;repeat(go_quiet (fail);try go_wp2)
                (first|go_roundg k1|((try simp only [add_plain] at *);go_roundg k1))
                case measure=>have:=HK1.1;omega
                case rel=>exact⟨(wrap64 (x5_1+1)),qB47,H',⟨by have:=HK1.1;omega⟩,by repeat(first|exact Drawn0.refl _|apply Drawn0.step)⟩
              · rw [if_neg c7] at H
                have c7b0:((rd l0 x5_1)==(rd l1 x5_1))=false:=beq_eq_false_iff_ne.mpr c7;have c7b1:((rd l0 x5_1) !=(rd l1 x5_1))=true:=bne_iff_ne.mpr c7;obtain rfl:=Option.some.inj H;have p101:0≤(x5_1:Int):=of_decide_eq_true qB46;have q101:x5_1<(l0.length:Int):=of_decide_eq_true qB46;obtain⟨ad101,e101,hx101_0⟩:=Kd.at_int HR0.1 x5_1 p101 q101;cases e101
                replace p101:=eq_true p101;replace q101:=eq_true q101;have p102:0≤(x5_1:Int):=of_decide_eq_true qB46;have q102:x5_1<(l1.length:Int):=of_decide_eq_true qB46;obtain⟨ad102,e102,hx102_0⟩:=Kd.at_int HR1.1 x5_1 p102 q102;cases e102
                replace p102:=eq_true p102;replace q102:=eq_true q102;go_wp2;repeat(go_quiet (fail);try go_wp2)
                go_ret;exact⟨by first|rfl|(simp;done)|(simp [*];done),by repeat(first|exact Drawn0.refl _|apply Drawn0.step)⟩
            · rw [if_neg c6] at H
              exact absurd H (by simp)
          · rw [if_neg c5] at H
            exact absurd H (by simp)
        · rw [if_neg c4] at H
          have c4b0:decide (x5_1<(l0.length:Int))=false:=decide_eq_false c4;clear c4;obtain rfl:=Option.some.inj H;go_wp2;repeat(go_quiet (fail);try go_wp2)
          go_ret;exact⟨by first|rfl|(simp;done)|(simp [*];done),by repeat(first|exact Drawn0.refl _|apply Drawn0.step)⟩
  · rw [if_neg c3] at H
    have c3b0:((l0.length:Int)==(l1.length:Int))=false:=beq_eq_false_iff_ne.mpr c3;have c3b1:((l0.length:Int) !=(l1.length:Int))=true:=bne_iff_ne.mpr c3;have c3b2:(l0.length==l1.length)=false:=by first|simpa using c3|(simp at c3 ⊢;omega)
    obtain rfl:=Option.some.inj H;go_enter Try.func13,Try.ntmps13;go_wp2;repeat(go_quiet (fail);try go_wp2)
    go_ret;exact⟨by first|rfl|(simp;done)|(simp [*];done),by repeat(first|exact Drawn0.refl _|apply Drawn0.step)⟩

/-! ### laws_markInt64S: function 16 -/
def laws_markInt64S.l0:Nat→List Int→Int→Int→Option (Int×List Int)
  |0,_,_,_=>none
  |k+1,x0,x1,x5=>if x5<(x0.length:Int) then (if 0≤x5 then (laws_markInt64S.l0 k (x0.set (x5:Int).toNat x1) (wrap64 (x1+1)) (wrap64 (x5+1))) else (none)) else (some (x1,x0))
def laws_markInt64S.f (k:Nat) (l0:List Int) (a1:Int):Option (Int×List Int):=laws_markInt64S.l0 k l0 a1 0
theorem laws_markInt64S.mono_l:∀k,(∀y0 y1 y2,LeO (laws_markInt64S.l0 k y0 y1 y2) (laws_markInt64S.l0 (k+1) y0 y1 y2))
  |0=>fun _ _ _ r h=>by simp [laws_markInt64S.l0] at h
  |k+1=>by
    have ih0:=laws_markInt64S.mono_l k
    · intro y0 y1 y2
      unfold laws_markInt64S.l0;repeat' first
      |(with_reducible exact ih0 _ _ _)
      |(with_reducible exact LeO.refl _)
      |(with_reducible exact LeO.none _)
      |(with_reducible refine LeO.ite ?_ ?_)
      |(with_reducible refine LeO.bind ?_ (fun _=>?_))
      |exact ih0 _ _ _
      |exact LeO.none _
      |refine LeO.ite ?_ ?_
      |refine LeO.bind ?_ (fun _=>?_)
theorem laws_markInt64S.mono:∀a0 a1 k,LeO (laws_markInt64S.f k a0 a1) (laws_markInt64S.f (k+1) a0 a1):=by
  intro a0 a1 k;have ih0:=laws_markInt64S.mono_l k;unfold laws_markInt64S.f;repeat' first
      |(with_reducible exact ih0 _ _ _)
      |(with_reducible exact LeO.refl _)
      |(with_reducible exact LeO.none _)
      |(with_reducible refine LeO.ite ?_ ?_)
      |(with_reducible refine LeO.bind ?_ (fun _=>?_))
      |exact ih0 _ _ _
      |exact LeO.none _
      |refine LeO.ite ?_ ?_
      |refine LeO.bind ?_ (fun _=>?_)
set_option maxHeartbeats 8000000 in
set_option maxRecDepth 100000 in
theorem laws_markInt64S.calls (k:Nat) (P0_:Nat→Prop) (u9000_:Value) (l0:List Int) (a1:Int) (r1:Int) (r2:List Int) (w0 w:World) (hB:Below w0.heap.size w0 w) (ho0:Kd.R (Kd.int .i64) 2 w w0.heap.size P0_ u9000_ l0) (h:laws_markInt64S.f k l0 a1=some (r1,r2)):
    Calls Try.prog 16 #[u9000_,.int .i64 a1] w fun e w'=>e=.returned (.int .i64 r1)∧Kd.R (Kd.int .i64) 2 w' w0.heap.size (fun k_=>(P0_ k_∨w.heap.size≤k_)) u9000_ r2∧Below w0.heap.size w0 w'∧Kept w w' (fun k_=>P0_ k_):=by
  have HO0:=qAm (show Kd.R (Kd.int .i64) 2 w w0.heap.size (fun k_=>(P0_ k_∨w.heap.size≤k_)) u9000_ l0 from Kd.R_mono ho0 (fun k_ hk=>(.inl hk)));have HK:=qAm (Kept.refl w (fun k_=>P0_ k_));have HW0:=qAm hB.size;have HB:=qAm hB;clear hB;have H:(laws_markInt64S.l0 k l0 a1 0)=some (r1,r2):=h;clear h;have H':=qAm H;clear H;go_enter Try.func16,Try.ntmps16;go_wp2;try simp only [Act.put,qSa,qSc,qSb]
  go_loopg [1,5] k (fun kq v1 v5 w'=>∃(x0_1:List Int) (x1_1:Int) (x5_1:Int),v1=.int .i64 x1_1∧v5=.int .i64 x5_1∧Aside0 (laws_markInt64S.l0 kq x0_1 x1_1 x5_1=some (r1,r2))∧Aside0 (kq≤k)∧Aside0 (Kd.R (Kd.int .i64) 2 w' w0.heap.size (fun k_=>(P0_ k_∨w.heap.size≤k_)) u9000_ x0_1)∧Aside0 (Kept w w' (fun k_=>P0_ k_))∧Aside0 (Below w0.heap.size w0 w'))
  case atStart=>exact⟨(l0),(a1),(0),qB47,qB47,H',⟨Nat.le_refl _⟩,⟨by (with_reducible repeat(first|apply Kd.R_alloc|apply Kd.R_drewN|apply Kd.R_drew));exact HO0.1⟩,⟨by repeat(first|(with_reducible first|exact HK.1|apply Kept.alloc|apply Kept.drewN|apply Kept.drew)|exact HK.1)⟩,⟨by repeat(first|(with_reducible first|exact HB.1|apply below_alloc|apply pw_below_drewN|apply below_drew1)|exact HB.1)⟩⟩
  case round=>
    clear H';try clear c1
    try clear p2
    obtain⟨x0_1,x1_1,x5_1,rfl,rfl,HA,HK1,HO_0,HK,HB⟩:=hrel;cases gk with
    |zero=>exact absurd HA.1 (by simp [laws_markInt64S.l0])
    |succ k1=>
      have H:=HA.1;clear HA;simp only [laws_markInt64S.l0] at H
      by_cases c3:x5_1<(x0_1.length:Int)
      · rw [if_pos c3] at H
        have c3b0:decide (x5_1<(x0_1.length:Int))=true:=decide_eq_true c3;clear c3
        by_cases c4:0≤x5_1
        · rw [if_pos c4] at H
          have c4b0:decide (0≤x5_1)=true:=decide_eq_true c4;clear c4;obtain⟨y103,hy103⟩:∃y_:List Int,y_=(x0_1.set (x5_1:Int).toNat x1_1):=⟨_,rfl⟩
          replace H:(laws_markInt64S.l0 k1 y103 (wrap64 (x1_1+1)) (wrap64 (x5_1+1)))=some (r1,r2):=by first|(rw [hy103];with_reducible exact H)|(have H2_:=(Option.bind_some _ _).symm.trans H;rw [hy103];with_reducible exact H2_)|(have H2_:=(Option.bind_some _ _).symm.trans H;with_reducible exact H2_)|with_reducible exact H|(rw [hy103];exact H)|exact H
          have Ny103:=qAm hy103;clear hy103;have H':=qAm H;clear H;obtain⟨Ao6,co6,eo6⟩:=Kd.R_slice HO_0.1;subst eo6;have p5:0≤(x5_1:Int):=of_decide_eq_true qB46;have q5:(x5_1:Int)<((x0_1.length:Int):Int):=of_decide_eq_true qB46;obtain⟨go5,co5,eo5,gb5,gl5,cl5,HG5⟩:=Kd.R_form HO_0.1 (by omega)
          (first|cases eo5|(injection eo5 with ea_ en_ ec_;(first|subst ea_|(injection ea_ with ea_;subst ea_));subst ec_;clear en_))
          have GB5:=qAm gb5;have GG5:=qAm HG5;clear gb5 gl5 HG5;have HMgo5:=qAm (show(P0_ go5∨w.heap.size≤go5) from (HO_0.1.1 _ rfl));obtain⟨hx5_0,hf5_0⟩:=Kd.R_celln 0 HO_0.1 (x5_1:Int) p5 q5;replace p5:=eq_true p5;replace q5:=eq_true q5;have HP7:=Kd.R_putg HO_0.1 (x5_1:Int) x1_1;go_wp2_with (first|((with_reducible refine gate_store (t:=2) (p:=15) rfl ?_);refine store_event (t:=2) (p:=15) (v:=?vo_w8) (w1:=(wr.setCell ⟨go5,(x5_1:Int).toNat,none⟩ (.int .i64 x1_1))) ?hg ?ho ?hn ?hr ?_;(case ho=>rfl);(case hg=>rfl);(case hn=>rfl);(case hr=>first|(go_simp;done)|(go_simp;rfl));intro w8 hw;have hg:wr.grownBy w8 (some go5):=(by rw [hw];exact HP7.2);have hp_:Kd.R (Kd.int .i64) 2 w8 w0.heap.size (fun k_=>(P0_ k_∨w.heap.size≤k_)) (.slice (some ⟨go5,0,none⟩) x0_1.length co6) y103:=(by rw [hw,Ny103.1];exact HP7.1);clear HP7;have n0_:=qAm (hp_);have n1_:=qAm ((by rw [hw];exact below_set (HB.1) GB5.1:Below w0.heap.size w0 w8));have n2_:=qAm (Kept.of_grown (S:=(fun k_=>P0_ k_)) hg (by repeat(first|(with_reducible first|exact HK.1|apply Kept.alloc|apply Kept.drewN|apply Kept.drew)|exact HK.1)) (fun k_ e_=>(HO_0.1.1 k_ e_)));clear HO_0;clear HB;clear HK;have HO_0:=n0_;have HB:=n1_;have HK:=n2_;clear n0_ n1_ n2_;clear hg hw hp_))
          (first|go_roundg k1|((try simp only [add_plain] at *);go_roundg k1))
          case measure=>have:=HK1.1;omega
          case rel=>exact⟨(y103),(wrap64 (x1_1+1)),(wrap64 (x5_1+1)),qB47,qB47,H',⟨by have:=HK1.1;omega⟩,⟨by (with_reducible repeat(first|apply Kd.R_alloc|apply Kd.R_drewN|apply Kd.R_drew));exact HO_0.1⟩,⟨by repeat(first|(with_reducible first|exact HK.1|apply Kept.alloc|apply Kept.drewN|apply Kept.drew)|exact HK.1)⟩,⟨by repeat(first|(with_reducible first|exact HB.1|apply below_alloc|apply pw_below_drewN|apply below_drew1)|exact HB.1)⟩⟩
        · rw [if_neg c4] at H
          exact absurd H (by simp)
      · rw [if_neg c3] at H
        have c3b0:decide (x5_1<(x0_1.length:Int))=false:=decide_eq_false c3;clear c3;simp only [Option.some.injEq,Prod.mk.injEq] at H;obtain⟨rfl,rfl⟩:=H;obtain⟨Ao9,co9,eo9⟩:=Kd.R_slice HO_0.1;subst eo9;go_wp2;go_ret;exact⟨by first|rfl|(simp [errW_none,errW_some] <;> rfl)|(simp [*,errW_none,errW_some] <;> rfl),by (with_reducible repeat(first|apply Kd.R_alloc|apply Kd.R_drewN|apply Kd.R_drew));exact HO_0.1,by repeat(first|(with_reducible first|exact HB.1|apply below_alloc|apply pw_below_drewN|apply below_drew1)|exact HB.1),by repeat(first|(with_reducible first|exact HK.1|apply Kept.alloc|apply Kept.drewN|apply Kept.drew)|exact HK.1)⟩

/-! ### laws_heldInt64S: function 17 -/
def laws_heldInt64S.l0:Nat→List Int→Int→Int→Option (Int)
  |0,_,_,_=>none
  |k+1,x0,x1,x5=>if x5<(x0.length:Int) then (if 0≤x5 then (if (rd x0 x5)=x1 then (laws_heldInt64S.l0 k x0 (wrap64 (x1+1)) (wrap64 (x5+1))) else (some (-1))) else (none)) else (some x1)
def laws_heldInt64S.f (k:Nat) (l0:List Int) (a1:Int):Option (Int):=laws_heldInt64S.l0 k l0 a1 0
theorem laws_heldInt64S.mono_l:∀k,(∀y0 y1 y2,LeO (laws_heldInt64S.l0 k y0 y1 y2) (laws_heldInt64S.l0 (k+1) y0 y1 y2))
  |0=>fun _ _ _ r h=>by simp [laws_heldInt64S.l0] at h
  |k+1=>by
    have ih0:=laws_heldInt64S.mono_l k
    · intro y0 y1 y2
      unfold laws_heldInt64S.l0;repeat' first
      |(with_reducible exact ih0 _ _ _)
      |(with_reducible exact LeO.refl _)
      |(with_reducible exact LeO.none _)
      |(with_reducible refine LeO.ite ?_ ?_)
      |(with_reducible refine LeO.bind ?_ (fun _=>?_))
      |exact ih0 _ _ _
      |exact LeO.none _
      |refine LeO.ite ?_ ?_
      |refine LeO.bind ?_ (fun _=>?_)
theorem laws_heldInt64S.mono:∀a0 a1 k,LeO (laws_heldInt64S.f k a0 a1) (laws_heldInt64S.f (k+1) a0 a1):=by
  intro a0 a1 k;have ih0:=laws_heldInt64S.mono_l k;unfold laws_heldInt64S.f;repeat' first
      |(with_reducible exact ih0 _ _ _)
      |(with_reducible exact LeO.refl _)
      |(with_reducible exact LeO.none _)
      |(with_reducible refine LeO.ite ?_ ?_)
      |(with_reducible refine LeO.bind ?_ (fun _=>?_))
      |exact ih0 _ _ _
      |exact LeO.none _
      |refine LeO.ite ?_ ?_
      |refine LeO.bind ?_ (fun _=>?_)
set_option maxHeartbeats 8000000 in
set_option maxRecDepth 100000 in
theorem laws_heldInt64S.calls (k:Nat) (A0:Option Addr) (c0:Nat) (l0:List Int) (a1:Int) (r:Int) (w:World) (hr0:Kd.C (Kd.int .i64) w A0 l0.length l0) (hc0:l0.length≤c0) (h:laws_heldInt64S.f k l0 a1=some r):
    Calls Try.prog 17 #[.slice A0 l0.length c0,.int .i64 a1] w fun e w'=>e=.returned (.int .i64 r)∧Drawn0 w w':=by
  have HR0:=qAm hr0;have HC0:=qAm hc0;clear hr0 hc0;have H:(laws_heldInt64S.l0 k l0 a1 0)=some r:=h;clear h;have H':=qAm H;clear H;go_enter Try.func17,Try.ntmps17;go_wp2;try simp only [Act.put,qSa,qSc,qSb]
  go_loopg [1,5] k (fun kq v1 v5 w'=>∃(x1_1:Int) (x5_1:Int),v1=.int .i64 x1_1∧v5=.int .i64 x5_1∧Aside0 (laws_heldInt64S.l0 kq l0 x1_1 x5_1=some r)∧Aside0 (kq≤k)∧Drawn0 w w')
  case atStart=>exact⟨(a1),(0),qB47,qB47,H',⟨Nat.le_refl _⟩,by repeat(first|exact Drawn0.refl _|apply Drawn0.step)⟩
  case round=>
    clear H';try clear c1
    try clear p2
    obtain⟨x1_1,x5_1,rfl,rfl,HA,HK1,⟨m1,rfl⟩⟩:=hrel;cases gk with
    |zero=>exact absurd HA.1 (by simp [laws_heldInt64S.l0])
    |succ k1=>
      have H:=HA.1;clear HA;simp only [laws_heldInt64S.l0] at H
      by_cases c3:x5_1<(l0.length:Int)
      · rw [if_pos c3] at H
        have c3b0:decide (x5_1<(l0.length:Int))=true:=decide_eq_true c3;clear c3
        by_cases c4:0≤x5_1
        · rw [if_pos c4] at H
          have c4b0:decide (0≤x5_1)=true:=decide_eq_true c4;clear c4
          by_cases c5:(rd l0 x5_1)=x1_1
          · rw [if_pos c5] at H
            have c5b0:((rd l0 x5_1)==x1_1)=true:=beq_iff_eq.mpr c5;have c5b1:((rd l0 x5_1) !=x1_1)=false:=bne_eq_false_iff_eq.mpr c5;clear c5;have H':=qAm H;clear H;have p104:0≤(x5_1:Int):=of_decide_eq_true qB46;have q104:x5_1<(l0.length:Int):=of_decide_eq_true qB46;obtain⟨ad104,e104,hx104_0⟩:=Kd.at_int HR0.1 x5_1 p104 q104;cases e104
            replace p104:=eq_true p104;replace q104:=eq_true q104;go_wp2
            (first|go_roundg k1|((try simp only [add_plain] at *);go_roundg k1))
            case measure=>have:=HK1.1;omega
            case rel=>exact⟨(wrap64 (x1_1+1)),(wrap64 (x5_1+1)),qB47,qB47,H',⟨by have:=HK1.1;omega⟩,by repeat(first|exact Drawn0.refl _|apply Drawn0.step)⟩
          · rw [if_neg c5] at H
            have c5b0:((rd l0 x5_1)==x1_1)=false:=beq_eq_false_iff_ne.mpr c5;have c5b1:((rd l0 x5_1) !=x1_1)=true:=bne_iff_ne.mpr c5;obtain rfl:=Option.some.inj H;have p104:0≤(x5_1:Int):=of_decide_eq_true qB46;have q104:x5_1<(l0.length:Int):=of_decide_eq_true qB46;obtain⟨ad104,e104,hx104_0⟩:=Kd.at_int HR0.1 x5_1 p104 q104;cases e104
            replace p104:=eq_true p104;replace q104:=eq_true q104;go_wp2;go_ret;exact⟨by first|rfl|(simp;done)|(simp [*];done),by repeat(first|exact Drawn0.refl _|apply Drawn0.step)⟩
        · rw [if_neg c4] at H
          exact absurd H (by simp)
      · rw [if_neg c3] at H
        have c3b0:decide (x5_1<(l0.length:Int))=false:=decide_eq_false c3;clear c3;obtain rfl:=Option.some.inj H;go_wp2;go_ret;exact⟨by first|rfl|(simp;done)|(simp [*];done),by repeat(first|exact Drawn0.refl _|apply Drawn0.step)⟩

/-! ### spec_l01In: function 83 -/
def spec_l01In.f (a0:Int) (a1:Int) (a2:Int):Option (Bool):=if a0≥a1 then (some (decide (a0≤a2))) else (some false)
set_option maxHeartbeats 8000000 in
set_option maxRecDepth 100000 in
theorem spec_l01In.calls (a0:Int) (a1:Int) (a2:Int) (r:Bool) (w:World) (h:spec_l01In.f a0 a1 a2=some r):
    Calls Try.prog 83 #[.int .i64 a0,.int .i64 a1,.int .i64 a2] w fun e w'=>e=.returned (.bool r)∧Drawn0 w w':=by
  have H:(if a0≥a1 then (some (decide (a0≤a2))) else (some false))=some r:=h;clear h
  by_cases c4:a0≥a1
  · rw [if_pos c4] at H
    have c4b0:decide (a1≤a0)=true:=decide_eq_true c4;clear c4;obtain rfl:=Option.some.inj H;go_enter Try.func83,Try.ntmps83;go_wp2;go_ret;exact⟨by first|rfl|(simp;done)|(simp [*];done),by repeat(first|exact Drawn0.refl _|apply Drawn0.step)⟩
  · rw [if_neg c4] at H
    have c4b0:decide (a1≤a0)=false:=decide_eq_false c4;clear c4;obtain rfl:=Option.some.inj H;go_enter Try.func83,Try.ntmps83;go_wp2;go_ret;exact⟨by first|rfl|(simp;done)|(simp [*];done),by repeat(first|exact Drawn0.refl _|apply Drawn0.step)⟩

/-! ### spec_l06Prime: function 121 -/
def spec_l06Prime.l0:Nat→Int→Int→Option (Bool)
  |0,_,_=>none
  |k+1,x0,x3=>if (wrap64 (x3*x3))≤x0 then (if x3=0 then (none) else (if (Int.tmod x0 x3)=0 then (some false) else (spec_l06Prime.l0 k x0 (wrap64 (x3+1))))) else (some true)
def spec_l06Prime.f (k:Nat) (a0:Int):Option (Bool):=(spec_l01In.f a0 3 61).bind fun t105=>(if t105=true then (spec_l06Prime.l0 k a0 2) else (some false))
theorem spec_l06Prime.mono_l:∀k,(∀y0 y1,LeO (spec_l06Prime.l0 k y0 y1) (spec_l06Prime.l0 (k+1) y0 y1))
  |0=>fun _ _ r h=>by simp [spec_l06Prime.l0] at h
  |k+1=>by
    have ih0:=spec_l06Prime.mono_l k
    · intro y0 y1
      unfold spec_l06Prime.l0;repeat' first
      |(with_reducible exact ih0 _ _)
      |(with_reducible exact LeO.refl _)
      |(with_reducible exact LeO.none _)
      |(with_reducible refine LeO.ite ?_ ?_)
      |(with_reducible refine LeO.bind ?_ (fun _=>?_))
      |exact ih0 _ _
      |exact LeO.none _
      |refine LeO.ite ?_ ?_
      |refine LeO.bind ?_ (fun _=>?_)
theorem spec_l06Prime.mono:∀a0 k,LeO (spec_l06Prime.f k a0) (spec_l06Prime.f (k+1) a0):=by
  intro a0 k;have ih0:=spec_l06Prime.mono_l k;unfold spec_l06Prime.f;repeat' first
      |(with_reducible exact ih0 _ _)
      |(with_reducible exact LeO.refl _)
      |(with_reducible exact LeO.none _)
      |(with_reducible refine LeO.ite ?_ ?_)
      |(with_reducible refine LeO.bind ?_ (fun _=>?_))
      |exact ih0 _ _
      |exact LeO.none _
      |refine LeO.ite ?_ ?_
      |refine LeO.bind ?_ (fun _=>?_)
set_option maxHeartbeats 8000000 in
set_option maxRecDepth 100000 in
theorem spec_l06Prime.calls (k:Nat) (a0:Int) (r:Bool) (w:World) (h:spec_l06Prime.f k a0=some r):
    Calls Try.prog 121 #[.int .i64 a0] w fun e w'=>e=.returned (.bool r)∧Drawn0 w w':=by
  have H:((spec_l01In.f a0 3 61).bind fun t105=>(if t105=true then (spec_l06Prime.l0 k a0 2) else (some false)))=some r:=h;clear h;replace H:=qOb H;obtain⟨t105,A20,H⟩:=H;replace H:(if t105=true then (spec_l06Prime.l0 k a0 2) else (some false))=some r:=H;have A2:=qAm A20;clear A20
  by_cases c3:t105=true
  · subst c3
    have H1:(spec_l06Prime.l0 k a0 2)=some r:=by rw [if_pos rfl] at H;exact H
    clear H;have H:=H1;clear H1;have H':=qAm H;clear H;go_enter Try.func121,Try.ntmps121;go_wp2_with (first|((with_reducible refine gate_callee (f:=83) rfl ?_);refine goesL_ (some 5) rfl rfl Try.func83 (by kernel_rfl) rfl #[.int .i64 a0,.int .i64 3,.int .i64 61] rfl qB15 ?_;(with_reducible refine(spec_l01In.calls a0 3 61 true _ A2.1).mono ?_);rintro e w' ⟨rfl,⟨nd,rfl⟩⟩;refine⟨_,rfl,?_⟩));try simp only [Act.put,qSa,qSc,qSb]
    go_loopg [3] k (fun kq v3 w'=>∃(x3_1:Int),v3=.int .i64 x3_1∧Aside0 (spec_l06Prime.l0 kq a0 x3_1=some r)∧Aside0 (kq≤k)∧Drawn0 w w')
    case atStart=>exact⟨(2),qB47,H',⟨Nat.le_refl _⟩,by repeat(first|exact Drawn0.refl _|apply Drawn0.step)⟩
    case round=>
      clear H';try clear c1
      try clear p2
      try clear c3
      obtain⟨x3_1,rfl,HA,HK1,⟨m1,rfl⟩⟩:=hrel;cases gk with
      |zero=>exact absurd HA.1 (by simp [spec_l06Prime.l0])
      |succ k1=>
        have H:=HA.1;clear HA;simp only [spec_l06Prime.l0] at H
        by_cases c4:(wrap64 (x3_1*x3_1))≤a0
        · rw [if_pos c4] at H
          have c4b0:decide ((wrap64 (x3_1*x3_1))≤a0)=true:=decide_eq_true c4;clear c4
          by_cases c5:x3_1=0
          · rw [if_pos c5] at H
            exact absurd H (by simp)
          · rw [if_neg c5] at H
            have c5b0:(x3_1==0)=false:=beq_eq_false_iff_ne.mpr c5;have c5b1:(x3_1 !=0)=true:=bne_iff_ne.mpr c5
            by_cases c6:(Int.tmod a0 x3_1)=0
            · rw [if_pos c6] at H
              have c6b0:((Int.tmod a0 x3_1)==0)=true:=beq_iff_eq.mpr c6;have c6b1:((Int.tmod a0 x3_1) !=0)=false:=bne_eq_false_iff_eq.mpr c6;clear c6;obtain rfl:=Option.some.inj H;go_wp2;go_ret;exact⟨by first|rfl|(simp;done)|(simp [*];done),by repeat(first|exact Drawn0.refl _|apply Drawn0.step)⟩
            · rw [if_neg c6] at H
              have c6b0:((Int.tmod a0 x3_1)==0)=false:=beq_eq_false_iff_ne.mpr c6;have c6b1:((Int.tmod a0 x3_1) !=0)=true:=bne_iff_ne.mpr c6;have H':=qAm H;clear H;go_wp2
              (first|go_roundg k1|((try simp only [add_plain] at *);go_roundg k1))
              case measure=>have:=HK1.1;omega
              case rel=>exact⟨(wrap64 (x3_1+1)),qB47,H',⟨by have:=HK1.1;omega⟩,by repeat(first|exact Drawn0.refl _|apply Drawn0.step)⟩
        · rw [if_neg c4] at H
          have c4b0:decide ((wrap64 (x3_1*x3_1))≤a0)=false:=decide_eq_false c4;clear c4;obtain rfl:=Option.some.inj H;go_wp2;go_ret;exact⟨by first|rfl|(simp;done)|(simp [*];done),by repeat(first|exact Drawn0.refl _|apply Drawn0.step)⟩
  · replace c3:=Bool.eq_false_iff.mpr c3
    subst c3;have H1:(some false)=some r:=by rw [if_neg (show ¬(false=true) by decide)] at H;exact H
    clear H;have H:=H1;clear H1;obtain rfl:=Option.some.inj H;go_enter Try.func121,Try.ntmps121;go_wp2_with (first|((with_reducible refine gate_callee (f:=83) rfl ?_);refine goesL_ (some 5) rfl rfl Try.func83 (by kernel_rfl) rfl #[.int .i64 a0,.int .i64 3,.int .i64 61] rfl qB15 ?_;(with_reducible refine(spec_l01In.calls a0 3 61 false _ A2.1).mono ?_);rintro e w' ⟨rfl,⟨nd,rfl⟩⟩;refine⟨_,rfl,?_⟩));go_ret;exact⟨by first|rfl|(simp;done)|(simp [*];done),by repeat(first|exact Drawn0.refl _|apply Drawn0.step)⟩

/-! ### spec_l06Code: function 79 -/
mutual
def spec_l06Code.j0:Nat→Int→List Int→Bool→Option (Int)
  |0,_,_,_=>none
  |k+1,x1,x2,x22=>if x22=true then (some 2) else (spec_l06Code.l0 k x1 x2 0)
def spec_l06Code.l0:Nat→Int→List Int→Int→Option (Int)
  |0,_,_,_=>none
  |k+1,x1,x2,x7=>if x7<(x2.length:Int) then (if 0≤x7 then ((spec_l01In.f (rd x2 x7) 0 (wrap64 (x1 - 1))).bind fun t109=>(if t109=true then (spec_l06Code.l0 k x1 x2 (wrap64 (x7+1))) else (some 2))) else (none)) else (some 0)
end
def spec_l06Code.f (k:Nat) (a0:Int) (a1:Int) (l2:List Int):Option (Int):=(spec_l06Prime.f k a0).bind fun t106=>(if t106=true then ((spec_l01In.f a1 1 12).bind fun t107=>(if t107=true then (if a1=0 then (none) else (spec_l06Code.j0 k a1 l2 ((Int.tmod (wrap64 (a0 - 1)) a1) !=0))) else (spec_l06Code.j0 k a1 l2 true))) else (spec_l06Code.j0 k a1 l2 true))
theorem spec_l06Code.mono_l:∀k,(∀y0 y1 y2,LeO (spec_l06Code.j0 k y0 y1 y2) (spec_l06Code.j0 (k+1) y0 y1 y2))∧(∀y0 y1 y2,LeO (spec_l06Code.l0 k y0 y1 y2) (spec_l06Code.l0 (k+1) y0 y1 y2))
  |0=>⟨fun _ _ _ r h=>by simp [spec_l06Code.j0] at h,fun _ _ _ r h=>by simp [spec_l06Code.l0] at h⟩
  |k+1=>by
    obtain⟨ih0,ih1⟩:=spec_l06Code.mono_l k;refine⟨?_,?_⟩
    · intro y0 y1 y2
      unfold spec_l06Code.j0;repeat' first
      |(with_reducible exact ih0 _ _ _)
      |(with_reducible exact ih1 _ _ _)
      |(with_reducible exact spec_l06Prime.mono _ _)
      |(with_reducible exact LeO.refl _)
      |(with_reducible exact LeO.none _)
      |(with_reducible refine LeO.ite ?_ ?_)
      |(with_reducible refine LeO.bind ?_ (fun _=>?_))
      |exact ih0 _ _ _
      |exact ih1 _ _ _
      |exact spec_l06Prime.mono _ _
      |exact LeO.none _
      |refine LeO.ite ?_ ?_
      |refine LeO.bind ?_ (fun _=>?_)
    · intro y0 y1 y2
      unfold spec_l06Code.l0;repeat' first
      |(with_reducible exact ih0 _ _ _)
      |(with_reducible exact ih1 _ _ _)
      |(with_reducible exact spec_l06Prime.mono _ _)
      |(with_reducible exact LeO.refl _)
      |(with_reducible exact LeO.none _)
      |(with_reducible refine LeO.ite ?_ ?_)
      |(with_reducible refine LeO.bind ?_ (fun _=>?_))
      |exact ih0 _ _ _
      |exact ih1 _ _ _
      |exact spec_l06Prime.mono _ _
      |exact LeO.none _
      |refine LeO.ite ?_ ?_
      |refine LeO.bind ?_ (fun _=>?_)
theorem spec_l06Code.mono:∀a0 a1 a2 k,LeO (spec_l06Code.f k a0 a1 a2) (spec_l06Code.f (k+1) a0 a1 a2):=by
  intro a0 a1 a2 k;obtain⟨ih0,ih1⟩:=spec_l06Code.mono_l k;unfold spec_l06Code.f;repeat' first
      |(with_reducible exact ih0 _ _ _)
      |(with_reducible exact ih1 _ _ _)
      |(with_reducible exact spec_l06Prime.mono _ _)
      |(with_reducible exact LeO.refl _)
      |(with_reducible exact LeO.none _)
      |(with_reducible refine LeO.ite ?_ ?_)
      |(with_reducible refine LeO.bind ?_ (fun _=>?_))
      |exact ih0 _ _ _
      |exact ih1 _ _ _
      |exact spec_l06Prime.mono _ _
      |exact LeO.none _
      |refine LeO.ite ?_ ?_
      |refine LeO.bind ?_ (fun _=>?_)
set_option maxHeartbeats 8000000 in
set_option maxRecDepth 100000 in
theorem spec_l06Code.calls (k:Nat) (a0:Int) (a1:Int) (A2:Option Addr) (c2:Nat) (l2:List Int) (r:Int) (w:World) (hr2:Kd.C (Kd.int .i64) w A2 l2.length l2) (hc2:l2.length≤c2) (h:spec_l06Code.f k a0 a1 l2=some r):
    Calls Try.prog 79 #[.int .i64 a0,.int .i64 a1,.slice A2 l2.length c2] w fun e w'=>e=.returned (.int .i64 r)∧Drawn0 w w':=by
  have HR2:=qAm hr2;have HC2:=qAm hc2;clear hr2 hc2;have H:((spec_l06Prime.f k a0).bind fun t106=>(if t106=true then ((spec_l01In.f a1 1 12).bind fun t107=>(if t107=true then (if a1=0 then (none) else (spec_l06Code.j0 k a1 l2 ((Int.tmod (wrap64 (a0 - 1)) a1) !=0))) else (spec_l06Code.j0 k a1 l2 true))) else (spec_l06Code.j0 k a1 l2 true)))=some r:=h;clear h;have HC4:=qAm H;clear H;go_enter Try.func79,Try.ntmps79;go_upto_region 1 with (fail)
  go_cut [22] (fun v22 wc=>∃(kq:Nat) (x22_3:Bool),v22=.bool x22_3∧Aside0 (spec_l06Code.j0 kq a1 l2 x22_3=some r)∧Aside0 (kq≤k)∧Drawn0 w wc)
  case first=>
    have H:=HC4.1;clear HC4;replace H:=qOb H;obtain⟨t106,A50,H⟩:=H;replace H:(if t106=true then ((spec_l01In.f a1 1 12).bind fun t107=>(if t107=true then (if a1=0 then (none) else (spec_l06Code.j0 k a1 l2 ((Int.tmod (wrap64 (a0 - 1)) a1) !=0))) else (spec_l06Code.j0 k a1 l2 true))) else (spec_l06Code.j0 k a1 l2 true))=some r:=H;have A5:=qAm A50;clear A50
    by_cases c6:t106=true
    · subst c6
      have H1:((spec_l01In.f a1 1 12).bind fun t107=>(if t107=true then (if a1=0 then (none) else (spec_l06Code.j0 k a1 l2 ((Int.tmod (wrap64 (a0 - 1)) a1) !=0))) else (spec_l06Code.j0 k a1 l2 true)))=some r:=by rw [if_pos rfl] at H;exact H
      clear H;have H:=H1;clear H1;replace H:=qOb H;obtain⟨t107,A70,H⟩:=H;replace H:(if t107=true then (if a1=0 then (none) else (spec_l06Code.j0 k a1 l2 ((Int.tmod (wrap64 (a0 - 1)) a1) !=0))) else (spec_l06Code.j0 k a1 l2 true))=some r:=H;have A7:=qAm A70;clear A70
      by_cases c8:t107=true
      · subst c8
        have H1:(if a1=0 then (none) else (spec_l06Code.j0 k a1 l2 ((Int.tmod (wrap64 (a0 - 1)) a1) !=0)))=some r:=by rw [if_pos rfl] at H;exact H
        clear H;have H:=H1;clear H1
        by_cases c9:a1=0
        · rw [if_pos c9] at H
          exact absurd H (by simp)
        · rw [if_neg c9] at H
          have c9b0:(a1==0)=false:=beq_eq_false_iff_ne.mpr c9;have c9b1:(a1 !=0)=true:=bne_iff_ne.mpr c9
          (first|rw [c9b0]|(simp only [i64_w,i32_w];rw [c9b0])|skip)
          have H':=qAm H;clear H;go_wp2_with (first|((with_reducible refine gate_callee (f:=121) rfl ?_);refine goesL_ (some 9) rfl rfl Try.func121 (by kernel_rfl) rfl #[.int .i64 a0] rfl qB15 ?_;(with_reducible refine(spec_l06Prime.calls k a0 true _ A5.1).mono ?_);rintro e w' ⟨rfl,⟨nd,rfl⟩⟩;refine⟨_,rfl,?_⟩)|(go_at_call 83;(with_reducible refine(spec_l01In.calls a1 1 12 true _ A7.1).mono ?_);rintro e w' ⟨rfl,⟨nd,rfl⟩⟩));go_meet
          case rel=>exact⟨_,(((Int.tmod (wrap64 (a0 - 1)) a1) !=0)),qB47,H',⟨by first|omega|exact Nat.le_refl _⟩,by repeat(first|exact Drawn0.refl _|apply Drawn0.step)⟩
      · replace c8:=Bool.eq_false_iff.mpr c8
        subst c8;have H1:(spec_l06Code.j0 k a1 l2 true)=some r:=by rw [if_neg (show ¬(false=true) by decide)] at H;exact H
        clear H;have H:=H1;clear H1;have H':=qAm H;clear H;go_wp2_with (first|((with_reducible refine gate_callee (f:=121) rfl ?_);refine goesL_ (some 9) rfl rfl Try.func121 (by kernel_rfl) rfl #[.int .i64 a0] rfl qB15 ?_;(with_reducible refine(spec_l06Prime.calls k a0 true _ A5.1).mono ?_);rintro e w' ⟨rfl,⟨nd,rfl⟩⟩;refine⟨_,rfl,?_⟩)|(go_at_call 83;(with_reducible refine(spec_l01In.calls a1 1 12 false _ A7.1).mono ?_);rintro e w' ⟨rfl,⟨nd,rfl⟩⟩));go_meet
        case rel=>exact⟨_,(true),qB47,H',⟨by first|omega|exact Nat.le_refl _⟩,by repeat(first|exact Drawn0.refl _|apply Drawn0.step)⟩
    · replace c6:=Bool.eq_false_iff.mpr c6
      subst c6;have H1:(spec_l06Code.j0 k a1 l2 true)=some r:=by rw [if_neg (show ¬(false=true) by decide)] at H;exact H
      clear H;have H:=H1;clear H1;have H':=qAm H;clear H;go_wp2_with (first|((with_reducible refine gate_callee (f:=121) rfl ?_);refine goesL_ (some 9) rfl rfl Try.func121 (by kernel_rfl) rfl #[.int .i64 a0] rfl qB15 ?_;(with_reducible refine(spec_l06Prime.calls k a0 false _ A5.1).mono ?_);rintro e w' ⟨rfl,⟨nd,rfl⟩⟩;refine⟨_,rfl,?_⟩));go_meet
      case rel=>exact⟨_,(true),qB47,H',⟨by first|omega|exact Nat.le_refl _⟩,by repeat(first|exact Drawn0.refl _|apply Drawn0.step)⟩
  case rest=>
    clear HC4;try clear c1
    try clear c2
    try clear p2
    try clear c6
    try clear p6
    try clear c7
    try clear c8
    try clear c9
    try clear c9b0
    try clear c9b1
    obtain⟨kq,x22_3,rfl,HA,HJ3,⟨mc3,rfl⟩⟩:=hcut;cases kq with
    |zero=>exact absurd HA.1 (by simp [spec_l06Code.j0])
    |succ kj3=>
      have H:=HA.1;clear HA;simp only [spec_l06Code.j0] at H
      by_cases c10:x22_3=true
      · subst c10
        have H1:(some 2)=some r:=by rw [if_pos rfl] at H;exact H
        clear H;have H:=H1;clear H1;obtain rfl:=Option.some.inj H;go_wp2;go_ret;exact⟨by first|rfl|(simp;done)|(simp [*];done),by repeat(first|exact Drawn0.refl _|apply Drawn0.step)⟩
      · replace c10:=Bool.eq_false_iff.mpr c10
        subst c10;have H1:(spec_l06Code.l0 kj3 a1 l2 0)=some r:=by rw [if_neg (show ¬(false=true) by decide)] at H;exact H
        clear H;have H:=H1;clear H1;have H':=qAm H;clear H;go_wp2;try simp only [Act.put,qSa,qSc,qSb]
        go_loopg [7] kj3 (fun kq v7 w'=>∃(x7_2:Int),v7=.int .i64 x7_2∧Aside0 (spec_l06Code.l0 kq a1 l2 x7_2=some r)∧Aside0 (kq≤kj3)∧Drawn0 w w')
        case atStart=>exact⟨(0),qB47,H',⟨Nat.le_refl _⟩,by repeat(first|exact Drawn0.refl _|apply Drawn0.step)⟩
        case round=>
          clear H';try clear c1
          try clear c2
          try clear p2
          try clear c3
          try clear c6
          try clear p6
          try clear c7
          try clear c8
          try clear c9
          try clear c9b0
          try clear c9b1
          try clear c10
          try clear p2
          try clear p6
          obtain⟨x7_2,rfl,HA,HK2,⟨m2,rfl⟩⟩:=hrel;cases gk with
          |zero=>exact absurd HA.1 (by simp [spec_l06Code.l0])
          |succ k2=>
            have H:=HA.1;clear HA;simp only [spec_l06Code.l0] at H
            by_cases c11:x7_2<(l2.length:Int)
            · rw [if_pos c11] at H
              have c11b0:decide (x7_2<(l2.length:Int))=true:=decide_eq_true c11;clear c11
              by_cases c12:0≤x7_2
              · rw [if_pos c12] at H
                have c12b0:decide (0≤x7_2)=true:=decide_eq_true c12;clear c12;replace H:=qOb H;obtain⟨t109,A130,H⟩:=H;replace H:(if t109=true then (spec_l06Code.l0 k2 a1 l2 (wrap64 (x7_2+1))) else (some 2))=some r:=H;have A13:=qAm A130;clear A130
                by_cases c14:t109=true
                · subst c14
                  have H1:(spec_l06Code.l0 k2 a1 l2 (wrap64 (x7_2+1)))=some r:=by rw [if_pos rfl] at H;exact H
                  clear H;have H:=H1;clear H1;have H':=qAm H;clear H;have p108:0≤(x7_2:Int):=of_decide_eq_true qB46;have q108:x7_2<(l2.length:Int):=of_decide_eq_true qB46;obtain⟨ad108,e108,hx108_0⟩:=Kd.at_int HR2.1 x7_2 p108 q108;cases e108
                  replace p108:=eq_true p108;replace q108:=eq_true q108;go_wp2_with (first|((with_reducible refine gate_callee (f:=83) rfl ?_);refine goesL_ (some 35) rfl rfl Try.func83 (by kernel_rfl) rfl #[.int .i64 (rd l2 x7_2),.int .i64 0,.int .i64 (wrap64 (a1 - 1))] rfl qB15 ?_;(with_reducible refine(spec_l01In.calls (rd l2 x7_2) 0 (wrap64 (a1 - 1)) true _ A13.1).mono ?_);rintro e w' ⟨rfl,⟨nd,rfl⟩⟩;refine⟨_,rfl,?_⟩))
                  (first|go_roundg k2|((try simp only [add_plain] at *);go_roundg k2))
                  case measure=>have:=HJ3.1;have:=HK2.1;omega
                  case rel=>exact⟨(wrap64 (x7_2+1)),qB47,H',⟨by have:=HJ3.1;have:=HK2.1;omega⟩,by repeat(first|exact Drawn0.refl _|apply Drawn0.step)⟩
                · replace c14:=Bool.eq_false_iff.mpr c14
                  subst c14;have H1:(some 2)=some r:=by rw [if_neg (show ¬(false=true) by decide)] at H;exact H
                  clear H;have H:=H1;clear H1;obtain rfl:=Option.some.inj H;have p108:0≤(x7_2:Int):=of_decide_eq_true qB46;have q108:x7_2<(l2.length:Int):=of_decide_eq_true qB46;obtain⟨ad108,e108,hx108_0⟩:=Kd.at_int HR2.1 x7_2 p108 q108;cases e108
                  replace p108:=eq_true p108;replace q108:=eq_true q108;go_wp2_with (first|((with_reducible refine gate_callee (f:=83) rfl ?_);refine goesL_ (some 35) rfl rfl Try.func83 (by kernel_rfl) rfl #[.int .i64 (rd l2 x7_2),.int .i64 0,.int .i64 (wrap64 (a1 - 1))] rfl qB15 ?_;(with_reducible refine(spec_l01In.calls (rd l2 x7_2) 0 (wrap64 (a1 - 1)) false _ A13.1).mono ?_);rintro e w' ⟨rfl,⟨nd,rfl⟩⟩;refine⟨_,rfl,?_⟩));go_ret;exact⟨by first|rfl|(simp;done)|(simp [*];done),by repeat(first|exact Drawn0.refl _|apply Drawn0.step)⟩
              · rw [if_neg c12] at H
                exact absurd H (by simp)
            · rw [if_neg c11] at H
              have c11b0:decide (x7_2<(l2.length:Int))=false:=decide_eq_false c11;clear c11;obtain rfl:=Option.some.inj H;go_wp2;go_ret;exact⟨by first|rfl|(simp;done)|(simp [*];done),by repeat(first|exact Drawn0.refl _|apply Drawn0.step)⟩

/-! ### spec_l01Own: function 119 -/
def spec_l01Own.f (l0:List Int):Option (List Int):=(some (([]:List Int):List Int)).bind fun y110=>(if y110.length+l0.length<17592186044416 then (some (y110 ++ l0)) else (none))
set_option maxHeartbeats 8000000 in
set_option maxRecDepth 100000 in
theorem spec_l01Own.calls (A0:Option Addr) (c0:Nat) (l0:List Int) (r:List Int) (w:World) (hr0:Kd.C (Kd.int .i64) w A0 l0.length l0) (hc0:l0.length≤c0) (h:spec_l01Own.f l0=some r):
    Calls Try.prog 119 #[.slice A0 l0.length c0] w fun e w'=>∃v0_:Value,e=.returned (v0_)∧Kd.R (Kd.int .i64) 2 w' w.heap.size (fun _=>True) v0_ r∧Below w.heap.size w w':=by
  have HR0:=qAm hr0;have HC0:=qAm hc0;clear hr0 hc0;have HB:=qAm (Below.refl w.heap.size w);have H:((some (([]:List Int):List Int)).bind fun y110=>(if y110.length+l0.length<17592186044416 then (some (y110 ++ l0)) else (none)))=some r:=h;clear h;obtain⟨y110,hy110⟩:∃y_:List Int,y_=(([]:List Int)):=⟨_,rfl⟩
  replace H:(if y110.length+l0.length<17592186044416 then (some (y110 ++ l0)) else (none))=some r:=by first|(rw [hy110];with_reducible exact H)|(have H2_:=(Option.bind_some _ _).symm.trans H;rw [hy110];with_reducible exact H2_)|(have H2_:=(Option.bind_some _ _).symm.trans H;with_reducible exact H2_)|with_reducible exact H|(rw [hy110];exact H)|exact H
  have Ny110:=qAm hy110;clear hy110
  by_cases c2:y110.length+l0.length<17592186044416
  · rw [if_pos c2] at H
    have LMc2:=qAm c2;clear c2;obtain⟨y113,hy113⟩:∃y_:List Int,y_=(y110 ++ l0):=⟨_,rfl⟩
    replace H:(some y113)=some r:=by first|(rw [hy113];with_reducible exact H)|(have H2_:=(Option.bind_some _ _).symm.trans H;rw [hy113];with_reducible exact H2_)|(have H2_:=(Option.bind_some _ _).symm.trans H;with_reducible exact H2_)|with_reducible exact H|(rw [hy113];exact H)|exact H
    have Ny113:=qAm hy113;clear hy113;obtain rfl:=Option.some.inj H;go_enter Try.func119,Try.ntmps119;go_wp2_with (first|((with_reducible refine gate_dst (N:=3) rfl ?_);refine Kd.R_lit (Kd.int .i64) _ 2 ?hg (N:=3) ?hd (xs:=([]:List Int)) (inner:=[]) (ok:=fun _=>True) (okp:=fun _=>True) ?hr ?hp (fun _ hk=>hk) trivial (Below.refl _ _) (Nat.le_refl _) (by simp) ?_;(case hd=>rfl);(case hg=>rfl);(case hr=>first|(go_simp;done)|(go_simp;rfl));(case hp=>exact(Reps.none _ _));intro v111 w3 ho4 hb hg_ hnew_;clear hg_ hnew_;(first|rw [← Ny110.1] at ho4|(simp only [Int.reduceToNat] at ho4;rw [← Ny110.1] at ho4));have n0_:=qAm (Kd.R_lower ho4 (below_size qB19));have n1_:=qAm (below_step qB19 hb);clear HB;have HO112:=n0_;have HB:=n1_;clear n0_ n1_;clear hb ho4)|((with_reducible refine gate_builtin (b:=.append) (xs:=#[.tmp 3,.tmp 4]) rfl ?_);at_builtin;refine Kd.R_append_rows (Kd.int .i64) (w0:=w) w.heap.size rfl (.tmp 3) (.tmp 4) 22 2 (.int .i64 0) 8 rfl Try.underlying22 info2 rfl (by decide) (by omega) v111 y110 l0 _ _ _ (fun _=>True) (fun _=>False) rfl rfl ?aO ?aR (fun _ _ h=>h) (fun _ h=>h.elim) ?aF ?aB ?aS ?aL ?_;(case aR=>repeat(first|exact(Kd.C_below HR0.1 HB.1)|(with_reducible refine Kd.C_alloc ?_ _)|(with_reducible refine Kd.C_drewN ?_ _)|(with_reducible refine Kd.C_drew ?_)));(case aB=>exact qB19);(case aF=>exact(fun _ _=>trivial));(case aO=>exact(by (with_reducible repeat(first|apply Kd.R_alloc|apply Kd.R_drewN|apply Kd.R_drew));exact HO112.1));(case aS=>exact(below_size qB19));(case aL=>have:=LMc2.1;omega);intro v114 w5 ho hb hg hat;rw [← Ny113.1] at ho;have n0_:=qAm (hb);have n1_:=qAm (ho);clear HB;clear HO112;have HB:=n0_;have HO115:=n1_;clear n0_ n1_;clear ho hb hg hat));go_ret;exact⟨_,by first|rfl|(simp [errW_none,errW_some] <;> rfl)|(simp [*,errW_none,errW_some] <;> rfl),by (with_reducible repeat(first|apply Kd.R_alloc|apply Kd.R_drewN|apply Kd.R_drew));exact HO115.1,by repeat(first|(with_reducible first|exact HB.1|apply below_alloc|apply pw_below_drewN|apply below_drew1)|exact HB.1)⟩
  · rw [if_neg c2] at H
    exact absurd H (by simp)

end Go.Proofs.Ytefhabkikaadiaa.PFnExactPeriodPolynomial
