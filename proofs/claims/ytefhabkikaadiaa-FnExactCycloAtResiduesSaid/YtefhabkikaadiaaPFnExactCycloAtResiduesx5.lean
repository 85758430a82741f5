/- The functions that the law reaches, as plain functions, each with the proof that the program comes to it; no condition. Written by a program of this session (wip/mp.py) over the printing of the kit; what is marked HAND is told by hand. -/
import Derived.Test.YtefhabkikaadiaaPFnExactCycloAtResiduesx0
namespace Go.Proofs.Ytefhabkikaadiaa.PFnExactCycloAtResidues
open Go.RowKit Go.Proofs.YtefhabkikaadiaaW.PrintWords Go.Proofs.YtefhabkikaadiaaW.PrintLast Go.Proofs.YtefhabkikaadiaaW.PrintMore
attribute [local go_sem] max2_int min2_int max_two min_two max_three min_three max_four min_four   -- for this text's walks alone
set_option linter.unusedVariables false
set_option linter.unusedSimpArgs false

/-! ### laws_toInt64S: function 30 -/
def laws_toInt64S.l0:Nat→List Int→List Int→Int→Option (List Int)
  |0,_,_,_=>none
  |k+1,x0,x3,x4=>if x4<(x0.length:Int) then (if 0≤x4 then (if x4<(x3.length:Int) then (laws_toInt64S.l0 k x0 (x3.set (x4:Int).toNat (rd x0 x4)) (wrap64 (x4+1))) else (none)) else (none)) else (some x3)
def laws_toInt64S.f (k:Nat) (l0:List Int):Option (List Int):=if 0≤(l0.length:Int) then (if ((l0.length:Int):Int).toNat≤35184372088832 then (laws_toInt64S.l0 k l0 (List.replicate ((l0.length:Int):Int).toNat 0) 0) else (none)) else (none)
theorem laws_toInt64S.mono_l:∀k,(∀y0 y1 y2,LeO (laws_toInt64S.l0 k y0 y1 y2) (laws_toInt64S.l0 (k+1) y0 y1 y2))
  |0=>fun _ _ _ r h=>by simp [laws_toInt64S.l0] at h
  |k+1=>by
    have ih0:=laws_toInt64S.mono_l k
    · intro y0 y1 y2
      unfold laws_toInt64S.l0;repeat' first
      |(with_reducible exact ih0 _ _ _)
      |(with_reducible exact LeO.refl _)
      |(with_reducible exact LeO.none _)
      |(with_reducible refine LeO.ite ?_ ?_)
      |(with_reducible refine LeO.bind ?_ (fun _=>?_))
      |exact ih0 _ _ _
      |exact LeO.none _
      |refine LeO.ite ?_ ?_
      |refine LeO.bind ?_ (fun _=>?_)
theorem laws_toInt64S.mono:∀a0 k,LeO (laws_toInt64S.f k a0) (laws_toInt64S.f (k+1) a0):=by
  intro a0 k;have ih0:=laws_toInt64S.mono_l k;unfold laws_toInt64S.f;repeat' first
      |(with_reducible exact ih0 _ _ _)
      |(with_reducible exact LeO.refl _)
      |(with_reducible exact LeO.none _)
      |(with_reducible refine LeO.ite ?_ ?_)
      |(with_reducible refine LeO.bind ?_ (fun _=>?_))
      |exact ih0 _ _ _
      |exact LeO.none _
      |refine LeO.ite ?_ ?_
      |refine LeO.bind ?_ (fun _=>?_)
set_option maxHeartbeats 8000000 in
set_option maxRecDepth 100000 in
theorem laws_toInt64S.calls (k:Nat) (A0:Option Addr) (c0:Nat) (l0:List Int) (r:List Int) (w:World) (hr0:Kd.C (Kd.int .i64) w A0 l0.length l0) (hc0:l0.length≤c0) (h:laws_toInt64S.f k l0=some r):
    Calls Try.prog 30 #[.slice A0 l0.length c0] w fun e w'=>∃v0_:Value,e=.returned (v0_)∧Kd.R (Kd.int .i64) 2 w' w.heap.size (fun _=>True) v0_ r∧Below w.heap.size w w':=by
  have HR0:=qAm hr0;have HC0:=qAm hc0;clear hr0 hc0;have HB:=qAm (Below.refl w.heap.size w);have H:(if 0≤(l0.length:Int) then (if ((l0.length:Int):Int).toNat≤35184372088832 then (laws_toInt64S.l0 k l0 (List.replicate ((l0.length:Int):Int).toNat 0) 0) else (none)) else (none))=some r:=h;clear h
  by_cases c2:0≤(l0.length:Int)
  · rw [if_pos c2] at H
    have c2b0:=eq_true c2;have c2b1:decide (0≤(l0.length:Int))=true:=decide_eq_true c2;clear c2
    by_cases c3:((l0.length:Int):Int).toNat≤35184372088832
    · rw [if_pos c3] at H
      have c3b0:=eq_true c3;have c3b1:decide (((l0.length:Int):Int).toNat≤35184372088832)=true:=decide_eq_true c3;clear c3;obtain⟨y196,hy196⟩:∃y_:List Int,y_=(List.replicate ((l0.length:Int):Int).toNat 0):=⟨_,rfl⟩
      replace H:(laws_toInt64S.l0 k l0 y196 0)=some r:=by first|(rw [hy196];with_reducible exact H)|(have H2_:=(Option.bind_some _ _).symm.trans H;rw [hy196];with_reducible exact H2_)|(have H2_:=(Option.bind_some _ _).symm.trans H;with_reducible exact H2_)|with_reducible exact H|(rw [hy196];exact H)|exact H
      have Ny196:=qAm hy196;clear hy196;have H':=qAm H;clear H;go_enter Try.func30,Try.ntmps30;go_wp2_with (first|((with_reducible refine gate_dst (N:=7) rfl ?_);refine Kd.R_make (Kd.int .i64) _ 2 rfl (N:=7) rfl 22 _ _ rfl (l0.length:Int) rfl rfl Try.underlying22 (.int .i64 0) 8 info2 rfl (by decide) (by omega) 0 (ok:=fun _=>True) (okp:=fun _=>True) rfl (fun _ hk=>hk) trivial (of_decide_eq_true qB51) (Nat.le_trans (Nat.mul_le_mul_right _ (of_decide_eq_true qB51:(l0.length:Int).toNat≤35184372088832)) (by omega)) (Below.refl _ _) (Nat.le_refl _) ?_;intro v197 w4 ho5 hb hg_ hnew_;clear hg_ hnew_;(first|rw [← Ny196.1] at ho5|(simp only [Int.reduceToNat] at ho5;rw [← Ny196.1] at ho5));have n0_:=qAm (Kd.R_lower ho5 (below_size qB18));have n1_:=qAm (below_step qB18 hb);clear HB;have HO198:=n0_;have HB:=n1_;clear n0_ n1_;clear hb ho5));try simp only [Act.put,qSa,qSc,qSb]
      go_loopg [4] k (fun kq v4 w'=>∃(x3_1:List Int) (x4_1:Int),v4=.int .i64 x4_1∧Aside0 (laws_toInt64S.l0 kq l0 x3_1 x4_1=some r)∧Aside0 (kq≤k)∧Aside0 (Kd.R (Kd.int .i64) 2 w' w.heap.size (fun _=>True) v197 x3_1)∧Aside0 (Below w.heap.size w w'))
      case atStart=>exact⟨(y196),(0),qB52,H',⟨Nat.le_refl _⟩,⟨by (with_reducible repeat(first|apply Kd.R_alloc|apply Kd.R_drewN|apply Kd.R_drew));exact HO198.1⟩,⟨by repeat(first|(with_reducible first|exact HB.1|apply below_alloc|apply pw_below_drewN|apply below_drew1)|exact HB.1)⟩⟩
      case round=>
        clear H';try clear c2
        try clear c2b0
        try clear c2b1
        try clear p2
        try clear c3
        try clear c3b0
        try clear c3b1
        obtain⟨x3_1,x4_1,rfl,HA,HK1,HO_3,HB⟩:=hrel;cases gk with
        |zero=>exact absurd HA.1 (by simp [laws_toInt64S.l0])
        |succ k1=>
          have H:=HA.1;clear HA;simp only [laws_toInt64S.l0] at H
          by_cases c6:x4_1<(l0.length:Int)
          · rw [if_pos c6] at H
            have c6b0:decide (x4_1<(l0.length:Int))=true:=decide_eq_true c6;clear c6
            by_cases c7:0≤x4_1
            · rw [if_pos c7] at H
              have c7b0:decide (0≤x4_1)=true:=decide_eq_true c7;clear c7
              by_cases c8:x4_1<(x3_1.length:Int)
              · rw [if_pos c8] at H
                have c8b0:decide (x4_1<(x3_1.length:Int))=true:=decide_eq_true c8;clear c8;obtain⟨y200,hy200⟩:∃y_:List Int,y_=(x3_1.set (x4_1:Int).toNat (rd l0 x4_1)):=⟨_,rfl⟩
                replace H:(laws_toInt64S.l0 k1 l0 y200 (wrap64 (x4_1+1)))=some r:=by first|(rw [hy200];with_reducible exact H)|(have H2_:=(Option.bind_some _ _).symm.trans H;rw [hy200];with_reducible exact H2_)|(have H2_:=(Option.bind_some _ _).symm.trans H;with_reducible exact H2_)|with_reducible exact H|(rw [hy200];exact H)|exact H
                have Ny200:=qAm hy200;clear hy200;have H':=qAm H;clear H;have p199:0≤(x4_1:Int):=of_decide_eq_true qB51;have q199:x4_1<(l0.length:Int):=of_decide_eq_true qB51;obtain⟨ad199,e199,hx199_0⟩:=Kd.at_int HR0.1 x4_1 p199 q199;cases e199
                replace hx199_0:=(HB.1.cell (World.block_lt_of_cell? w _ hx199_0)).trans hx199_0;replace p199:=eq_true p199;replace q199:=eq_true q199;have p9:0≤(x4_1:Int):=of_decide_eq_true qB51;have q9:(x4_1:Int)<((x3_1.length:Int):Int):=of_decide_eq_true qB51;obtain⟨go9,co9,eo9,gb9,gl9,cl9,HG9⟩:=Kd.R_form HO_3.1 (by omega)
                (first|cases eo9|(injection eo9 with ea_ en_ ec_;(first|subst ea_|(injection ea_ with ea_;subst ea_));subst ec_;clear en_))
                have GB9:=qAm gb9;have GG9:=qAm HG9;clear gb9 gl9 HG9;obtain⟨hx9_0,hf9_0⟩:=Kd.R_celln 0 HO_3.1 (x4_1:Int) p9 q9;replace p9:=eq_true p9;replace q9:=eq_true q9;have HP10:=Kd.R_putg HO_3.1 (x4_1:Int) (rd l0 x4_1);go_wp2_with (first|((with_reducible refine gate_store (t:=2) (p:=20) rfl ?_);refine store_event (t:=2) (p:=20) (v:=?vo_w11) (w1:=(wr.setCell ⟨go9,(x4_1:Int).toNat,none⟩ (.int .i64 (rd l0 x4_1)))) ?hg ?ho ?hn ?hr ?_;(case ho=>rfl);(case hg=>rfl);(case hn=>rfl);(case hr=>first|(go_simp;done)|(go_simp;rfl));intro w11 hw;have hg:wr.grownBy w11 (some go9):=(by rw [hw];exact HP10.2);have hp_:Kd.R (Kd.int .i64) 2 w11 w.heap.size (fun _=>True) (.slice (some ⟨go9,0,none⟩) x3_1.length co9) y200:=(by rw [hw,Ny200.1];exact HP10.1);clear HP10;have n0_:=qAm (hp_);have n1_:=qAm ((by rw [hw];exact below_set (HB.1) GB9.1:Below w.heap.size w w11));clear HO_3;clear HB;have HO_3:=n0_;have HB:=n1_;clear n0_ n1_;clear hg hw hp_))
                (first|go_roundg k1|((try simp only [add_plain] at *);go_roundg k1))
                case measure=>have:=HK1.1;omega
                case rel=>exact⟨(y200),(wrap64 (x4_1+1)),qB52,H',⟨by have:=HK1.1;omega⟩,⟨by (with_reducible repeat(first|apply Kd.R_alloc|apply Kd.R_drewN|apply Kd.R_drew));exact HO_3.1⟩,⟨by repeat(first|(with_reducible first|exact HB.1|apply below_alloc|apply pw_below_drewN|apply below_drew1)|exact HB.1)⟩⟩
              · rw [if_neg c8] at H
                exact absurd H (by simp)
            · rw [if_neg c7] at H
              exact absurd H (by simp)
          · rw [if_neg c6] at H
            have c6b0:decide (x4_1<(l0.length:Int))=false:=decide_eq_false c6;clear c6;obtain rfl:=Option.some.inj H;go_wp2;go_ret;exact⟨_,by first|rfl|(simp [errW_none,errW_some] <;> rfl)|(simp [*,errW_none,errW_some] <;> rfl),by (with_reducible repeat(first|apply Kd.R_alloc|apply Kd.R_drewN|apply Kd.R_drew));exact HO_3.1,by repeat(first|(with_reducible first|exact HB.1|apply below_alloc|apply pw_below_drewN|apply below_drew1)|exact HB.1)⟩
    · rw [if_neg c3] at H
      exact absurd H (by simp)
  · rw [if_neg c2] at H
    exact absurd H (by simp)

/-! ### impl_around: function 88 -/
def impl_around.f (a0:Int) (a1:Int):Option (Int):=if a1=0 then (none) else (some (Int.tmod (wrap64 ((Int.tmod a0 a1)+a1)) a1))
set_option maxHeartbeats 8000000 in
set_option maxRecDepth 100000 in
theorem impl_around.calls (a0:Int) (a1:Int) (r:Int) (w:World) (h:impl_around.f a0 a1=some r):
    Calls Try.prog 88 #[.int .i64 a0,.int .i64 a1] w fun e w'=>e=.returned (.int .i64 r)∧Drawn0 w w':=by
  have H:(if a1=0 then (none) else (some (Int.tmod (wrap64 ((Int.tmod a0 a1)+a1)) a1)))=some r:=h;clear h
  by_cases c3:a1=0
  · rw [if_pos c3] at H
    exact absurd H (by simp)
  · rw [if_neg c3] at H
    have c3b0:(a1==0)=false:=beq_eq_false_iff_ne.mpr c3;have c3b1:(a1 !=0)=true:=bne_iff_ne.mpr c3;obtain rfl:=Option.some.inj H;go_enter Try.func88,Try.ntmps88;go_wp2;go_ret;exact⟨by first|rfl|(simp;done)|(simp [*];done),by repeat(first|exact Drawn0.refl _|apply Drawn0.step)⟩

/-! ### impl_valueAt: function 63 -/
def impl_valueAt.l0:Nat→List Int→Int→Int→Int→Int→Option (Int)
  |0,_,_,_,_,_=>none
  |k+1,x0,x1,x2,x7,x8=>if x8≥0 then (if 0≤x8 then (if x8<(x0.length:Int) then (if x2=0 then (none) else ((impl_around.f (wrap64 ((wrap64 (x7*x1))+(Int.tmod (rd x0 x8) x2))) x2).bind fun t202=>(impl_valueAt.l0 k x0 x1 x2 t202 (wrap64 (x8 - 1))))) else (none)) else (none)) else (some x7)
def impl_valueAt.f (k:Nat) (l0:List Int) (a1:Int) (a2:Int):Option (Int):=impl_valueAt.l0 k l0 a1 a2 0 (wrap64 ((l0.length:Int) - 1))
theorem impl_valueAt.mono_l:∀k,(∀y0 y1 y2 y3 y4,LeO (impl_valueAt.l0 k y0 y1 y2 y3 y4) (impl_valueAt.l0 (k+1) y0 y1 y2 y3 y4))
  |0=>fun _ _ _ _ _ r h=>by simp [impl_valueAt.l0] at h
  |k+1=>by
    have ih0:=impl_valueAt.mono_l k
    · intro y0 y1 y2 y3 y4
      unfold impl_valueAt.l0;repeat' first
      |(with_reducible exact ih0 _ _ _ _ _)
      |(with_reducible exact LeO.refl _)
      |(with_reducible exact LeO.none _)
      |(with_reducible refine LeO.ite ?_ ?_)
      |(with_reducible refine LeO.bind ?_ (fun _=>?_))
      |exact ih0 _ _ _ _ _
      |exact LeO.none _
      |refine LeO.ite ?_ ?_
      |refine LeO.bind ?_ (fun _=>?_)
theorem impl_valueAt.mono:∀a0 a1 a2 k,LeO (impl_valueAt.f k a0 a1 a2) (impl_valueAt.f (k+1) a0 a1 a2):=by
  intro a0 a1 a2 k;have ih0:=impl_valueAt.mono_l k;unfold impl_valueAt.f;repeat' first
      |(with_reducible exact ih0 _ _ _ _ _)
      |(with_reducible exact LeO.refl _)
      |(with_reducible exact LeO.none _)
      |(with_reducible refine LeO.ite ?_ ?_)
      |(with_reducible refine LeO.bind ?_ (fun _=>?_))
      |exact ih0 _ _ _ _ _
      |exact LeO.none _
      |refine LeO.ite ?_ ?_
      |refine LeO.bind ?_ (fun _=>?_)
set_option maxHeartbeats 8000000 in
set_option maxRecDepth 100000 in
theorem impl_valueAt.calls (k:Nat) (A0:Option Addr) (c0:Nat) (l0:List Int) (a1:Int) (a2:Int) (r:Int) (w:World) (hr0:Kd.C (Kd.int .i64) w A0 l0.length l0) (hc0:l0.length≤c0) (h:impl_valueAt.f k l0 a1 a2=some r):
    Calls Try.prog 63 #[.slice A0 l0.length c0,.int .i64 a1,.int .i64 a2] w fun e w'=>e=.returned (.int .i64 r)∧Drawn0 w w':=by
  have HR0:=qAm hr0;have HC0:=qAm hc0;clear hr0 hc0;have H:(impl_valueAt.l0 k l0 a1 a2 0 (wrap64 ((l0.length:Int) - 1)))=some r:=h;clear h;have H':=qAm H;clear H;go_enter Try.func63,Try.ntmps63;go_wp2;try simp only [Act.put,qSa,qSc,qSb]
  go_loopg [7,8] k (fun kq v7 v8 w'=>∃(x7_1:Int) (x8_1:Int),v7=.int .i64 x7_1∧v8=.int .i64 x8_1∧Aside0 (impl_valueAt.l0 kq l0 a1 a2 x7_1 x8_1=some r)∧Aside0 (kq≤k)∧Drawn0 w w')
  case atStart=>exact⟨(0),(wrap64 ((l0.length:Int) - 1)),qB52,qB52,H',⟨Nat.le_refl _⟩,by repeat(first|exact Drawn0.refl _|apply Drawn0.step)⟩
  case round=>
    clear H';try clear p2
    obtain⟨x7_1,x8_1,rfl,rfl,HA,HK1,⟨m1,rfl⟩⟩:=hrel;cases gk with
    |zero=>exact absurd HA.1 (by simp [impl_valueAt.l0])
    |succ k1=>
      have H:=HA.1;clear HA;simp only [impl_valueAt.l0] at H
      by_cases c4:x8_1≥0
      · rw [if_pos c4] at H
        have c4b0:decide (0≤x8_1)=true:=decide_eq_true c4;clear c4
        by_cases c5:0≤x8_1
        · rw [if_pos c5] at H
          have c5b0:decide (0≤x8_1)=true:=decide_eq_true c5;clear c5
          by_cases c6:x8_1<(l0.length:Int)
          · rw [if_pos c6] at H
            have c6b0:decide (x8_1<(l0.length:Int))=true:=decide_eq_true c6;clear c6
            by_cases c7:a2=0
            · rw [if_pos c7] at H
              exact absurd H (by simp)
            · rw [if_neg c7] at H
              have c7b0:(a2==0)=false:=beq_eq_false_iff_ne.mpr c7;have c7b1:(a2 !=0)=true:=bne_iff_ne.mpr c7;replace H:=qOb H;obtain⟨t202,A80,H⟩:=H;replace H:(impl_valueAt.l0 k1 l0 a1 a2 t202 (wrap64 (x8_1 - 1)))=some r:=H;have A8:=qAm A80;clear A80;have H':=qAm H;clear H;have p201:0≤(x8_1:Int):=of_decide_eq_true qB51;have q201:x8_1<(l0.length:Int):=of_decide_eq_true qB51;obtain⟨ad201,e201,hx201_0⟩:=Kd.at_int HR0.1 x8_1 p201 q201;cases e201
              replace p201:=eq_true p201;replace q201:=eq_true q201;go_wp2_with (first|((with_reducible refine gate_callee (f:=88) rfl ?_);refine goesL_ (some 27) rfl rfl Try.func88 (by kernel_rfl) rfl #[.int .i64 (wrap64 ((wrap64 (x7_1*a1))+(Int.tmod (rd l0 x8_1) a2))),.int .i64 a2] rfl qB17 ?_;(with_reducible refine(impl_around.calls (wrap64 ((wrap64 (x7_1*a1))+(Int.tmod (rd l0 x8_1) a2))) a2 t202 _ A8.1).mono ?_);rintro e w' ⟨rfl,⟨nd,rfl⟩⟩;refine⟨_,rfl,?_⟩))
              (first|go_roundg k1|((try simp only [add_plain] at *);go_roundg k1))
              case measure=>have:=HK1.1;omega
              case rel=>exact⟨(t202),(wrap64 (x8_1 - 1)),qB52,qB52,H',⟨by have:=HK1.1;omega⟩,by repeat(first|exact Drawn0.refl _|apply Drawn0.step)⟩
          · rw [if_neg c6] at H
            exact absurd H (by simp)
        · rw [if_neg c5] at H
          exact absurd H (by simp)
      · rw [if_neg c4] at H
        have c4b0:decide (0≤x8_1)=false:=decide_eq_false c4;clear c4;obtain rfl:=Option.some.inj H;go_wp2;go_ret;exact⟨by first|rfl|(simp;done)|(simp [*];done),by repeat(first|exact Drawn0.refl _|apply Drawn0.step)⟩

/-! ### impl_within: function 87 -/
def impl_within.f (a0:Int) (a1:Int) (a2:Int):Option (Bool):=if a1≤a0 then (some (decide (a0≤a2))) else (some false)
set_option maxHeartbeats 8000000 in
set_option maxRecDepth 100000 in
theorem impl_within.calls (a0:Int) (a1:Int) (a2:Int) (r:Bool) (w:World) (h:impl_within.f a0 a1 a2=some r):
    Calls Try.prog 87 #[.int .i64 a0,.int .i64 a1,.int .i64 a2] w fun e w'=>e=.returned (.bool r)∧Drawn0 w w':=by
  have H:(if a1≤a0 then (some (decide (a0≤a2))) else (some false))=some r:=h;clear h
  by_cases c4:a1≤a0
  · rw [if_pos c4] at H
    have c4b0:decide (a1≤a0)=true:=decide_eq_true c4;clear c4;obtain rfl:=Option.some.inj H;go_enter Try.func87,Try.ntmps87;go_wp2;go_ret;exact⟨by first|rfl|(simp;done)|(simp [*];done),by repeat(first|exact Drawn0.refl _|apply Drawn0.step)⟩
  · rw [if_neg c4] at H
    have c4b0:decide (a1≤a0)=false:=decide_eq_false c4;clear c4;obtain rfl:=Option.some.inj H;go_enter Try.func87,Try.ntmps87;go_wp2;go_ret;exact⟨by first|rfl|(simp;done)|(simp [*];done),by repeat(first|exact Drawn0.refl _|apply Drawn0.step)⟩

/-! ### impl_isOrder: function 103 -/
def impl_isOrder.f (a0:Int):Option (Bool):=(impl_within.f a0 1 16).bind fun t203=>(some t203)
set_option maxHeartbeats 8000000 in
set_option maxRecDepth 100000 in
theorem impl_isOrder.calls (a0:Int) (r:Bool) (w:World) (h:impl_isOrder.f a0=some r):
    Calls Try.prog 103 #[.int .i64 a0] w fun e w'=>e=.returned (.bool r)∧Drawn0 w w':=by
  have H:((impl_within.f a0 1 16).bind fun t203=>(some t203))=some r:=h;clear h;replace H:=qOb H;obtain⟨t203,A20,H⟩:=H;replace H:(some t203)=some r:=H;have A2:=qAm A20;clear A20;obtain rfl:=Option.some.inj H;go_enter Try.func103,Try.ntmps103;go_wp2_with (first|((with_reducible refine gate_callee (f:=87) rfl ?_);refine goesL_ (some 4) rfl rfl Try.func87 (by kernel_rfl) rfl #[.int .i64 a0,.int .i64 1,.int .i64 16] rfl qB17 ?_;(with_reducible refine(impl_within.calls a0 1 16 t203 _ A2.1).mono ?_);rintro e w' ⟨rfl,⟨nd,rfl⟩⟩;refine⟨_,rfl,?_⟩));go_ret;exact⟨by first|rfl|(simp;done)|(simp [*];done),by repeat(first|exact Drawn0.refl _|apply Drawn0.step)⟩

/-! ### impl_isPrime: function 106 -/
def impl_isPrime.l0:Nat→Int→Int→Option (Bool)
  |0,_,_=>none
  |k+1,x0,x3=>if (wrap64 (x3*x3))≤x0 then (if x3=0 then (none) else (if (Int.tmod x0 x3)=0 then (some false) else (impl_isPrime.l0 k x0 (wrap64 (x3+1))))) else ((impl_within.f x0 3 61).bind fun t204=>(some t204))
def impl_isPrime.f (k:Nat) (a0:Int):Option (Bool):=impl_isPrime.l0 k a0 2
theorem impl_isPrime.mono_l:∀k,(∀y0 y1,LeO (impl_isPrime.l0 k y0 y1) (impl_isPrime.l0 (k+1) y0 y1))
  |0=>fun _ _ r h=>by simp [impl_isPrime.l0] at h
  |k+1=>by
    have ih0:=impl_isPrime.mono_l k
    · intro y0 y1
      unfold impl_isPrime.l0;repeat' first
      |(with_reducible exact ih0 _ _)
      |(with_reducible exact LeO.refl _)
      |(with_reducible exact LeO.none _)
      |(with_reducible refine LeO.ite ?_ ?_)
      |(with_reducible refine LeO.bind ?_ (fun _=>?_))
      |exact ih0 _ _
      |exact LeO.none _
      |refine LeO.ite ?_ ?_
      |refine LeO.bind ?_ (fun _=>?_)
theorem impl_isPrime.mono:∀a0 k,LeO (impl_isPrime.f k a0) (impl_isPrime.f (k+1) a0):=by
  intro a0 k;have ih0:=impl_isPrime.mono_l k;unfold impl_isPrime.f;repeat' first
      |(with_reducible exact ih0 _ _)
      |(with_reducible exact LeO.refl _)
      |(with_reducible exact LeO.none _)
      |(with_reducible refine LeO.ite ?_ ?_)
      |(with_reducible refine LeO.bind ?_ (fun _=>?_))
      |exact ih0 _ _
      |exact LeO.none _
      |refine LeO.ite ?_ ?_
      |refine LeO.bind ?_ (fun _=>?_)
set_option maxHeartbeats 8000000 in
set_option maxRecDepth 100000 in
theorem impl_isPrime.calls (k:Nat) (a0:Int) (r:Bool) (w:World) (h:impl_isPrime.f k a0=some r):
    Calls Try.prog 106 #[.int .i64 a0] w fun e w'=>e=.returned (.bool r)∧Drawn0 w w':=by
  have H:(impl_isPrime.l0 k a0 2)=some r:=h;clear h;have H':=qAm H;clear H;go_enter Try.func106,Try.ntmps106;go_wp2;try simp only [Act.put,qSa,qSc,qSb]
  go_loopg [3] k (fun kq v3 w'=>∃(x3_1:Int),v3=.int .i64 x3_1∧Aside0 (impl_isPrime.l0 kq a0 x3_1=some r)∧Aside0 (kq≤k)∧Drawn0 w w')
  case atStart=>exact⟨(2),qB52,H',⟨Nat.le_refl _⟩,by repeat(first|exact Drawn0.refl _|apply Drawn0.step)⟩
  case round=>
    clear H';try clear c1
    obtain⟨x3_1,rfl,HA,HK1,⟨m1,rfl⟩⟩:=hrel;cases gk with
    |zero=>exact absurd HA.1 (by simp [impl_isPrime.l0])
    |succ k1=>
      have H:=HA.1;clear HA;simp only [impl_isPrime.l0] at H
      by_cases c2:(wrap64 (x3_1*x3_1))≤a0
      · rw [if_pos c2] at H
        have c2b0:decide ((wrap64 (x3_1*x3_1))≤a0)=true:=decide_eq_true c2;clear c2
        by_cases c3:x3_1=0
        · rw [if_pos c3] at H
          exact absurd H (by simp)
        · rw [if_neg c3] at H
          have c3b0:(x3_1==0)=false:=beq_eq_false_iff_ne.mpr c3;have c3b1:(x3_1 !=0)=true:=bne_iff_ne.mpr c3
          by_cases c4:(Int.tmod a0 x3_1)=0
          · rw [if_pos c4] at H
            have c4b0:((Int.tmod a0 x3_1)==0)=true:=beq_iff_eq.mpr c4;have c4b1:((Int.tmod a0 x3_1) !=0)=false:=bne_eq_false_iff_eq.mpr c4;clear c4;obtain rfl:=Option.some.inj H;go_wp2;go_ret;exact⟨by first|rfl|(simp;done)|(simp [*];done),by repeat(first|exact Drawn0.refl _|apply Drawn0.step)⟩
          · rw [if_neg c4] at H
            have c4b0:((Int.tmod a0 x3_1)==0)=false:=beq_eq_false_iff_ne.mpr c4;have c4b1:((Int.tmod a0 x3_1) !=0)=true:=bne_iff_ne.mpr c4;have H':=qAm H;clear H;go_wp2
            (first|go_roundg k1|((try simp only [add_plain] at *);go_roundg k1))
            case measure=>have:=HK1.1;omega
            case rel=>exact⟨(wrap64 (x3_1+1)),qB52,H',⟨by have:=HK1.1;omega⟩,by repeat(first|exact Drawn0.refl _|apply Drawn0.step)⟩
      · rw [if_neg c2] at H
        have c2b0:decide ((wrap64 (x3_1*x3_1))≤a0)=false:=decide_eq_false c2;clear c2;replace H:=qOb H;obtain⟨t204,A50,H⟩:=H;replace H:(some t204)=some r:=H;have A5:=qAm A50;clear A50;obtain rfl:=Option.some.inj H;go_wp2_with (first|((with_reducible refine gate_callee (f:=87) rfl ?_);refine goesL_ (some 16) rfl rfl Try.func87 (by kernel_rfl) rfl #[.int .i64 a0,.int .i64 3,.int .i64 61] rfl qB17 ?_;(with_reducible refine(impl_within.calls a0 3 61 t204 _ A5.1).mono ?_);rintro e w' ⟨rfl,⟨nd,rfl⟩⟩;refine⟨_,rfl,?_⟩));go_ret;exact⟨by first|rfl|(simp;done)|(simp [*];done),by repeat(first|exact Drawn0.refl _|apply Drawn0.step)⟩

/-! ### impl_size: function 140 -/
def impl_size.f (a0:Int):Option (Int):=some (mx a0 (wrap64 (-a0)))
set_option maxHeartbeats 8000000 in
set_option maxRecDepth 100000 in
theorem impl_size.calls (a0:Int) (r:Int) (w:World) (h:impl_size.f a0=some r):
    Calls Try.prog 140 #[.int .i64 a0] w fun e w'=>e=.returned (.int .i64 r)∧Below w.heap.size w w':=by
  have HB:=qAm (Below.refl w.heap.size w);have H:(some (mx a0 (wrap64 (-a0))))=some r:=h;clear h;obtain⟨ji2,hji2⟩:∃j_:Int,(mx a0 (wrap64 (-a0)))=j_:=⟨_,rfl⟩
  replace H:(some ji2)=some r:=by first|(rw [hji2] at H;exact H)|(simp only [hji2] at H ⊢;exact H)
  have hji2_:(if a0<(wrap64 (-a0)) then (wrap64 (-a0)) else a0)=ji2:=hji2;obtain rfl:=Option.some.inj H;go_enter Try.func140,Try.ntmps140;go_wp2;go_ret;exact⟨by first|rfl|(simp [errW_none,errW_some] <;> rfl)|(simp only [← hji2];first|rfl|(simp [errW_none,errW_some] <;> rfl))|(simp [*,errW_none,errW_some] <;> rfl),by repeat(first|(with_reducible first|exact HB.1|apply below_alloc|apply pw_below_drewN|apply below_drew1)|exact HB.1)⟩

/-! ### impl_gcd: function 130 -/
def impl_gcd.l0:Nat→Int→Int→Option (Int)
  |0,_,_=>none
  |k+1,x0,x1=>if x1 > 0 then (if x1=0 then (none) else (impl_gcd.l0 k x1 (Int.tmod x0 x1))) else (some x0)
def impl_gcd.f (k:Nat) (a0:Int) (a1:Int):Option (Int):=(impl_size.f a0).bind fun t205=>((impl_size.f a1).bind fun t206=>(impl_gcd.l0 k t205 t206))
theorem impl_gcd.mono_l:∀k,(∀y0 y1,LeO (impl_gcd.l0 k y0 y1) (impl_gcd.l0 (k+1) y0 y1))
  |0=>fun _ _ r h=>by simp [impl_gcd.l0] at h
  |k+1=>by
    have ih0:=impl_gcd.mono_l k
    · intro y0 y1
      unfold impl_gcd.l0;repeat' first
      |(with_reducible exact ih0 _ _)
      |(with_reducible exact LeO.refl _)
      |(with_reducible exact LeO.none _)
      |(with_reducible refine LeO.ite ?_ ?_)
      |(with_reducible refine LeO.bind ?_ (fun _=>?_))
      |exact ih0 _ _
      |exact LeO.none _
      |refine LeO.ite ?_ ?_
      |refine LeO.bind ?_ (fun _=>?_)
theorem impl_gcd.mono:∀a0 a1 k,LeO (impl_gcd.f k a0 a1) (impl_gcd.f (k+1) a0 a1):=by
  intro a0 a1 k;have ih0:=impl_gcd.mono_l k;unfold impl_gcd.f;repeat' first
      |(with_reducible exact ih0 _ _)
      |(with_reducible exact LeO.refl _)
      |(with_reducible exact LeO.none _)
      |(with_reducible refine LeO.ite ?_ ?_)
      |(with_reducible refine LeO.bind ?_ (fun _=>?_))
      |exact ih0 _ _
      |exact LeO.none _
      |refine LeO.ite ?_ ?_
      |refine LeO.bind ?_ (fun _=>?_)
set_option maxHeartbeats 8000000 in
set_option maxRecDepth 100000 in
theorem impl_gcd.calls (k:Nat) (a0:Int) (a1:Int) (r:Int) (w:World) (h:impl_gcd.f k a0 a1=some r):
    Calls Try.prog 130 #[.int .i64 a0,.int .i64 a1] w fun e w'=>e=.returned (.int .i64 r)∧Below w.heap.size w w':=by
  have HB:=qAm (Below.refl w.heap.size w);have H:((impl_size.f a0).bind fun t205=>((impl_size.f a1).bind fun t206=>(impl_gcd.l0 k t205 t206)))=some r:=h;clear h;replace H:=qOb H;obtain⟨t205,A30,H⟩:=H;replace H:((impl_size.f a1).bind fun t206=>(impl_gcd.l0 k t205 t206))=some r:=H;have A3:=qAm A30;clear A30;replace H:=qOb H;obtain⟨t206,A40,H⟩:=H;replace H:(impl_gcd.l0 k t205 t206)=some r:=H;have A4:=qAm A40;clear A40;have H':=qAm H;clear H;go_enter Try.func130,Try.ntmps130;go_wp2_with (first|(go_at_call 140;(with_reducible refine(impl_size.calls a0 t205 _ A3.1).mono ?_);rintro e w5 ⟨rfl,hb⟩;have n0_:=qAm (below_step qB18 hb);clear HB;have HB:=n0_;clear n0_;(try clear hb);(try clear hb2);(try clear hk);(try clear hi))|(go_at_call 140;(with_reducible refine(impl_size.calls a1 t206 _ A4.1).mono ?_);rintro e w6 ⟨rfl,hb⟩;have n0_:=qAm (below_step qB18 hb);clear HB;have HB:=n0_;clear n0_;(try clear hb);(try clear hb2);(try clear hk);(try clear hi)));repeat(go_quiet (first|(go_at_call 140;(with_reducible refine(impl_size.calls a0 t205 _ A3.1).mono ?_);rintro e w5 ⟨rfl,hb⟩;have n0_:=qAm (below_step qB18 hb);clear HB;have HB:=n0_;clear n0_;(try clear hb);(try clear hb2);(try clear hk);(try clear hi))|(go_at_call 140;(with_reducible refine(impl_size.calls a1 t206 _ A4.1).mono ?_);rintro e w6 ⟨rfl,hb⟩;have n0_:=qAm (below_step qB18 hb);clear HB;have HB:=n0_;clear n0_;(try clear hb);(try clear hb2);(try clear hk);(try clear hi)));try go_wp2_with (first|(go_at_call 140;(with_reducible refine(impl_size.calls a0 t205 _ A3.1).mono ?_);rintro e w5 ⟨rfl,hb⟩;have n0_:=qAm (below_step qB18 hb);clear HB;have HB:=n0_;clear n0_;(try clear hb);(try clear hb2);(try clear hk);(try clear hi))|(go_at_call 140;(with_reducible refine(impl_size.calls a1 t206 _ A4.1).mono ?_);rintro e w6 ⟨rfl,hb⟩;have n0_:=qAm (below_step qB18 hb);clear HB;have HB:=n0_;clear n0_;(try clear hb);(try clear hb2);(try clear hk);(try clear hi))))
  try simp only [Act.put,qSa,qSc,qSb]
  go_loopg [0,1] k (fun kq v0 v1 w'=>∃(x0_1:Int) (x1_1:Int),v0=.int .i64 x0_1∧v1=.int .i64 x1_1∧Aside0 (impl_gcd.l0 kq x0_1 x1_1=some r)∧Aside0 (kq≤k)∧Aside0 (Below w.heap.size w w'))
  case atStart=>exact⟨(t205),(t206),qB52,qB52,H',⟨Nat.le_refl _⟩,⟨by repeat(first|(with_reducible first|exact HB.1|apply below_alloc|apply pw_below_drewN|apply below_drew1)|exact HB.1)⟩⟩
  case round=>
    clear H';try clear c1
    try clear p2
    obtain⟨x0_1,x1_1,rfl,rfl,HA,HK1,HB⟩:=hrel;cases gk with
    |zero=>exact absurd HA.1 (by simp [impl_gcd.l0])
    |succ k1=>
      have H:=HA.1;clear HA;simp only [impl_gcd.l0] at H
      by_cases c7:x1_1 > 0
      · rw [if_pos c7] at H
        have c7b0:decide (0<x1_1)=true:=decide_eq_true c7;clear c7
        by_cases c8:x1_1=0
        · rw [if_pos c8] at H
          exact absurd H (by simp)
        · rw [if_neg c8] at H
          have c8b0:(x1_1==0)=false:=beq_eq_false_iff_ne.mpr c8;have c8b1:(x1_1 !=0)=true:=bne_iff_ne.mpr c8;have H':=qAm H;clear H;go_wp2;repeat(go_quiet (fail);try go_wp2)
          (first|go_roundg k1|((try simp only [add_plain] at *);go_roundg k1))
          case measure=>have:=HK1.1;omega
          case rel=>exact⟨(x1_1),(Int.tmod x0_1 x1_1),qB52,qB52,H',⟨by have:=HK1.1;omega⟩,⟨by repeat(first|(with_reducible first|exact HB.1|apply below_alloc|apply pw_below_drewN|apply below_drew1)|exact HB.1)⟩⟩
      · rw [if_neg c7] at H
        have c7b0:decide (0<x1_1)=false:=decide_eq_false c7;clear c7;obtain rfl:=Option.some.inj H;go_wp2;repeat(go_quiet (fail);try go_wp2)
        go_ret;exact⟨by first|rfl|(simp [errW_none,errW_some] <;> rfl)|(simp [*,errW_none,errW_some] <;> rfl),by repeat(first|(with_reducible first|exact HB.1|apply below_alloc|apply pw_below_drewN|apply below_drew1)|exact HB.1)⟩

/-! ### impl_totient: function 104 -/
def impl_totient.l0:Nat→Int→Int→Int→Option (Int)
  |0,_,_,_=>none
  |k+1,x0,x3,x4=>if x4≤x0 then ((impl_gcd.f k x4 x0).bind fun t207=>(if t207=1 then (impl_totient.l0 k x0 (wrap64 (x3+1)) (wrap64 (x4+1))) else (impl_totient.l0 k x0 x3 (wrap64 (x4+1))))) else (some x3)
def impl_totient.f (k:Nat) (a0:Int):Option (Int):=impl_totient.l0 k a0 0 1
theorem impl_totient.mono_l:∀k,(∀y0 y1 y2,LeO (impl_totient.l0 k y0 y1 y2) (impl_totient.l0 (k+1) y0 y1 y2))
  |0=>fun _ _ _ r h=>by simp [impl_totient.l0] at h
  |k+1=>by
    have ih0:=impl_totient.mono_l k
    · intro y0 y1 y2
      unfold impl_totient.l0;repeat' first
      |(with_reducible exact ih0 _ _ _)
      |(with_reducible exact impl_gcd.mono _ _ _)
      |(with_reducible exact LeO.refl _)
      |(with_reducible exact LeO.none _)
      |(with_reducible refine LeO.ite ?_ ?_)
      |(with_reducible refine LeO.bind ?_ (fun _=>?_))
      |exact ih0 _ _ _
      |exact impl_gcd.mono _ _ _
      |exact LeO.none _
      |refine LeO.ite ?_ ?_
      |refine LeO.bind ?_ (fun _=>?_)
theorem impl_totient.mono:∀a0 k,LeO (impl_totient.f k a0) (impl_totient.f (k+1) a0):=by
  intro a0 k;have ih0:=impl_totient.mono_l k;unfold impl_totient.f;repeat' first
      |(with_reducible exact ih0 _ _ _)
      |(with_reducible exact impl_gcd.mono _ _ _)
      |(with_reducible exact LeO.refl _)
      |(with_reducible exact LeO.none _)
      |(with_reducible refine LeO.ite ?_ ?_)
      |(with_reducible refine LeO.bind ?_ (fun _=>?_))
      |exact ih0 _ _ _
      |exact impl_gcd.mono _ _ _
      |exact LeO.none _
      |refine LeO.ite ?_ ?_
      |refine LeO.bind ?_ (fun _=>?_)
set_option maxHeartbeats 8000000 in
set_option maxRecDepth 100000 in
theorem impl_totient.calls (k:Nat) (a0:Int) (r:Int) (w:World) (h:impl_totient.f k a0=some r):
    Calls Try.prog 104 #[.int .i64 a0] w fun e w'=>e=.returned (.int .i64 r)∧Below w.heap.size w w':=by
  have HB:=qAm (Below.refl w.heap.size w);have H:(impl_totient.l0 k a0 0 1)=some r:=h;clear h;have H':=qAm H;clear H;go_enter Try.func104,Try.ntmps104;go_wp2;try simp only [Act.put,qSa,qSc,qSb]
  go_loopg [3,4] k (fun kq v3 v4 w'=>∃(x3_1:Int) (x4_1:Int),v3=.int .i64 x3_1∧v4=.int .i64 x4_1∧Aside0 (impl_totient.l0 kq a0 x3_1 x4_1=some r)∧Aside0 (kq≤k)∧Aside0 (Below w.heap.size w w'))
  case atStart=>exact⟨(0),(1),qB52,qB52,H',⟨Nat.le_refl _⟩,⟨by repeat(first|(with_reducible first|exact HB.1|apply below_alloc|apply pw_below_drewN|apply below_drew1)|exact HB.1)⟩⟩
  case round=>
    clear H';try clear c1
    obtain⟨x3_1,x4_1,rfl,rfl,HA,HK1,HB⟩:=hrel;cases gk with
    |zero=>exact absurd HA.1 (by simp [impl_totient.l0])
    |succ k1=>
      have H:=HA.1;clear HA;simp only [impl_totient.l0] at H
      by_cases c2:x4_1≤a0
      · rw [if_pos c2] at H
        have c2b0:decide (x4_1≤a0)=true:=decide_eq_true c2;clear c2;replace H:=qOb H;obtain⟨t207,A30,H⟩:=H;replace H:(if t207=1 then (impl_totient.l0 k1 a0 (wrap64 (x3_1+1)) (wrap64 (x4_1+1))) else (impl_totient.l0 k1 a0 x3_1 (wrap64 (x4_1+1))))=some r:=H;have A3:=qAm A30;clear A30
        by_cases c4:t207=1
        · rw [if_pos c4] at H
          have c4b0:(t207==1)=true:=beq_iff_eq.mpr c4;have c4b1:(t207 !=1)=false:=bne_eq_false_iff_eq.mpr c4;clear c4;have H':=qAm H;clear H;go_wp2_with (first|((with_reducible refine gate_callee (f:=130) rfl ?_);refine goesL_ (some 12) rfl rfl Try.func130 (by kernel_rfl) rfl #[.int .i64 x4_1,.int .i64 a0] rfl qB17 ?_;(with_reducible refine(impl_gcd.calls k1 x4_1 a0 t207 _ A3.1).mono ?_);rintro e w5 ⟨rfl,hb⟩;refine⟨_,rfl,?_⟩;have n0_:=qAm (below_step qB18 hb);clear HB;have HB:=n0_;clear n0_;(try clear hb);(try clear hb2);(try clear hk);(try clear hi)))
          (first|go_roundg k1|((try simp only [add_plain] at *);go_roundg k1))
          case measure=>have:=HK1.1;omega
          case rel=>exact⟨(wrap64 (x3_1+1)),(wrap64 (x4_1+1)),qB52,qB52,H',⟨by have:=HK1.1;omega⟩,⟨by repeat(first|(with_reducible first|exact HB.1|apply below_alloc|apply pw_below_drewN|apply below_drew1)|exact HB.1)⟩⟩
        · rw [if_neg c4] at H
          have c4b0:(t207==1)=false:=beq_eq_false_iff_ne.mpr c4;have c4b1:(t207 !=1)=true:=bne_iff_ne.mpr c4;have H':=qAm H;clear H;go_wp2_with (first|((with_reducible refine gate_callee (f:=130) rfl ?_);refine goesL_ (some 12) rfl rfl Try.func130 (by kernel_rfl) rfl #[.int .i64 x4_1,.int .i64 a0] rfl qB17 ?_;(with_reducible refine(impl_gcd.calls k1 x4_1 a0 t207 _ A3.1).mono ?_);rintro e w6 ⟨rfl,hb⟩;refine⟨_,rfl,?_⟩;have n0_:=qAm (below_step qB18 hb);clear HB;have HB:=n0_;clear n0_;(try clear hb);(try clear hb2);(try clear hk);(try clear hi)))
          (first|go_roundg k1|((try simp only [add_plain] at *);go_roundg k1))
          case measure=>have:=HK1.1;omega
          case rel=>exact⟨(x3_1),(wrap64 (x4_1+1)),qB52,qB52,H',⟨by have:=HK1.1;omega⟩,⟨by repeat(first|(with_reducible first|exact HB.1|apply below_alloc|apply pw_below_drewN|apply below_drew1)|exact HB.1)⟩⟩
      · rw [if_neg c2] at H
        have c2b0:decide (x4_1≤a0)=false:=decide_eq_false c2;clear c2;obtain rfl:=Option.some.inj H;go_wp2;go_ret;exact⟨by first|rfl|(simp [errW_none,errW_some] <;> rfl)|(simp [*,errW_none,errW_some] <;> rfl),by repeat(first|(with_reducible first|exact HB.1|apply below_alloc|apply pw_below_drewN|apply below_drew1)|exact HB.1)⟩

end Go.Proofs.Ytefhabkikaadiaa.PFnExactCycloAtResidues
