/- The functions that the law reaches, as plain functions, each with the proof that the program comes to it; no condition. Written by a program of this session (wip/mp.py) over the printing of the kit; what is marked HAND is told by hand. -/
import Derived.Test.YtefhabkikaadiaaPFnPeriodsx0
import Derived.Test.YtefhabkikaadiaaPFnPeriodsx1
import Derived.Test.YtefhabkikaadiaaPFnPeriodsx2
import Derived.Test.YtefhabkikaadiaaPFnPeriodsx3
import Derived.Test.YtefhabkikaadiaaPFnPeriodsx4
namespace Go.Proofs.Ytefhabkikaadiaa.PFnPeriods
open Go.RowKit Go.Proofs.YtefhabkikaadiaaW.PrintWords Go.Proofs.YtefhabkikaadiaaW.PrintLast Go.Proofs.YtefhabkikaadiaaW.PrintMore
attribute [local go_sem] max2_int min2_int max_two min_two max_three min_three max_four min_four   -- for this text's walks alone
set_option linter.unusedVariables false
set_option linter.unusedSimpArgs false

/-! ### spec_ClassOf: function 39 -/
def spec_ClassOf.j0:Nat→Int→Int→Int→Int→Bool→Option (Int×Int)
  |0,_,_,_,_,_=>none
  |k+1,x0,x1,x2,x8,x20=>if x20=true then (if 2=0 then ((spec_l06Indices.f k x0).bind fun t266=>(if 0≤x2 then (if x2<(t266.length:Int) then (if x1=0 then (none) else (some (Int.tmod (rd t266 x2) x1,0))) else (none)) else (none))) else (some (0,2))) else (if x8=0 then ((spec_l06Indices.f k x0).bind fun t270=>(if 0≤x2 then (if x2<(t270.length:Int) then (if x1=0 then (none) else (some (Int.tmod (rd t270 x2) x1,0))) else (none)) else (none))) else (some (0,x8)))
def spec_ClassOf.f (k:Nat) (a0:Int) (a1:Int) (a2:Int):Option (Int×Int):=(spec_l06Code.f k a0 a1 ([]:List Int)).bind fun t264=>(if t264=0 then ((spec_l01In.f a2 1 (wrap64 (a0 - 1))).bind fun t265=>(spec_ClassOf.j0 k a0 a1 a2 t264 (!t265))) else (spec_ClassOf.j0 k a0 a1 a2 t264 false))
theorem spec_ClassOf.mono_l:∀k,(∀y0 y1 y2 y3 y4,LeO (spec_ClassOf.j0 k y0 y1 y2 y3 y4) (spec_ClassOf.j0 (k+1) y0 y1 y2 y3 y4))
  |0=>fun _ _ _ _ _ r h=>by simp [spec_ClassOf.j0] at h
  |k+1=>by
    have ih0:=spec_ClassOf.mono_l k
    · intro y0 y1 y2 y3 y4
      unfold spec_ClassOf.j0;repeat' first
      |(with_reducible exact ih0 _ _ _ _ _)
      |(with_reducible exact spec_l06Code.mono _ _ _ _)
      |(with_reducible exact spec_l06Indices.mono _ _)
      |(with_reducible exact LeO.refl _)
      |(with_reducible exact LeO.none _)
      |(with_reducible refine LeO.ite ?_ ?_)
      |(with_reducible refine LeO.bind ?_ (fun _=>?_))
      |exact ih0 _ _ _ _ _
      |exact spec_l06Code.mono _ _ _ _
      |exact spec_l06Indices.mono _ _
      |exact LeO.none _
      |refine LeO.ite ?_ ?_
      |refine LeO.bind ?_ (fun _=>?_)
theorem spec_ClassOf.mono:∀a0 a1 a2 k,LeO (spec_ClassOf.f k a0 a1 a2) (spec_ClassOf.f (k+1) a0 a1 a2):=by
  intro a0 a1 a2 k;have ih0:=spec_ClassOf.mono_l k;unfold spec_ClassOf.f;repeat' first
      |(with_reducible exact ih0 _ _ _ _ _)
      |(with_reducible exact spec_l06Code.mono _ _ _ _)
      |(with_reducible exact spec_l06Indices.mono _ _)
      |(with_reducible exact LeO.refl _)
      |(with_reducible exact LeO.none _)
      |(with_reducible refine LeO.ite ?_ ?_)
      |(with_reducible refine LeO.bind ?_ (fun _=>?_))
      |exact ih0 _ _ _ _ _
      |exact spec_l06Code.mono _ _ _ _
      |exact spec_l06Indices.mono _ _
      |exact LeO.none _
      |refine LeO.ite ?_ ?_
      |refine LeO.bind ?_ (fun _=>?_)
set_option maxHeartbeats 8000000 in
set_option maxRecDepth 100000 in
theorem spec_ClassOf.calls (k:Nat) (a0:Int) (a1:Int) (a2:Int) (r1:Int) (r2:Int) (w:World) (h:spec_ClassOf.f k a0 a1 a2=some (r1,r2)):
    Calls Try.prog 39 #[.int .i64 a0,.int .i64 a1,.int .i64 a2] w fun e w'=>e=.returned (.tuple #[.int .i64 r1,.int .i64 r2])∧Below w.heap.size w w':=by
  have HB:=qAm (Below.refl w.heap.size w);have H:((spec_l06Code.f k a0 a1 ([]:List Int)).bind fun t264=>(if t264=0 then ((spec_l01In.f a2 1 (wrap64 (a0 - 1))).bind fun t265=>(spec_ClassOf.j0 k a0 a1 a2 t264 (!t265))) else (spec_ClassOf.j0 k a0 a1 a2 t264 false)))=some (r1,r2):=h;clear h;replace H:=qOb H;obtain⟨t264,A40,H⟩:=H;replace H:(if t264=0 then ((spec_l01In.f a2 1 (wrap64 (a0 - 1))).bind fun t265=>(spec_ClassOf.j0 k a0 a1 a2 t264 (!t265))) else (spec_ClassOf.j0 k a0 a1 a2 t264 false))=some (r1,r2):=H;have A4:=qAm A40;clear A40;have HC5:=qAm H;clear H;go_enter Try.func39,Try.ntmps39;go_upto_region 2 with (first|((with_reducible refine gate_callee (f:=79) rfl ?_);refine goesL_ (some 11) rfl rfl Try.func79 (by kernel_rfl) rfl #[.int .i64 a0,.int .i64 a1,.slice none 0 0] rfl qB19 ?_;(refine(spec_l06Code.calls k a0 a1 _ _ ([]:List Int) t264 _ ?side1 ?side2 A4.1).mono ?_);(case side1=>exact Kd.C_nil _ _);(case side2=>exact Nat.le_refl _);rintro e w' ⟨rfl,⟨nd,rfl⟩⟩;refine⟨_,rfl,?_⟩))
  (try simp only [Act.put,qSa,qSb,qSc])
  go_cut [20] (fun v20 wc=>∃(kq:Nat) (x20_4:Bool),v20=.bool x20_4∧Aside0 (spec_ClassOf.j0 kq a0 a1 a2 t264 x20_4=some (r1,r2))∧Aside0 (kq≤k)∧Aside0 (Below w.heap.size w wc))
  case first=>
    have H:=HC5.1;clear HC5
    by_cases c6:t264=0
    · rw [if_pos c6] at H
      have c6b0:(t264==0)=true:=beq_iff_eq.mpr c6;have c6b1:(t264 !=0)=false:=bne_eq_false_iff_eq.mpr c6;clear c6
      (first|rw [c6b0]|(simp only [i64_w,i32_w];rw [c6b0])|skip)
      replace H:=qOb H;obtain⟨t265,A70,H⟩:=H;replace H:(spec_ClassOf.j0 k a0 a1 a2 t264 (!t265))=some (r1,r2):=H;have A7:=qAm A70;clear A70;have H':=qAm H;clear H;go_wp2_with (first|(go_at_call 83;(with_reducible refine(spec_l01In.calls a2 1 (wrap64 (a0 - 1)) t265 _ A7.1).mono ?_);rintro e w' ⟨rfl,⟨nd,rfl⟩⟩));go_meet
      case rel=>exact⟨_,(!t265),qB57,H',⟨by first|omega|exact Nat.le_refl _⟩,⟨by repeat(first|(with_reducible first|exact HB.1|apply below_alloc|apply pw_below_drewN|apply below_drew1)|exact HB.1)⟩⟩
    · rw [if_neg c6] at H
      have c6b0:(t264==0)=false:=beq_eq_false_iff_ne.mpr c6;have c6b1:(t264 !=0)=true:=bne_iff_ne.mpr c6
      (first|rw [c6b0]|(simp only [i64_w,i32_w];rw [c6b0])|skip)
      have H':=qAm H;clear H;go_wp2;go_meet
      case rel=>exact⟨_,(false),qB57,H',⟨by first|omega|exact Nat.le_refl _⟩,⟨by repeat(first|(with_reducible first|exact HB.1|apply below_alloc|apply pw_below_drewN|apply below_drew1)|exact HB.1)⟩⟩
  case rest=>
    clear HC5;try clear p2
    try clear c3
    try clear c6
    try clear c6b0
    try clear c6b1
    try clear p6
    try clear c7
    obtain⟨kq,x20_4,rfl,HA,HJ4,HB⟩:=hcut;cases kq with
    |zero=>exact absurd HA.1 (by simp [spec_ClassOf.j0])
    |succ kj4=>
      have H:=HA.1;clear HA;simp only [spec_ClassOf.j0] at H
      by_cases c8:x20_4=true
      · subst c8
        have H1:(if 2=0 then ((spec_l06Indices.f kj4 a0).bind fun t266=>(if 0≤a2 then (if a2<(t266.length:Int) then (if a1=0 then (none) else (some (Int.tmod (rd t266 a2) a1,0))) else (none)) else (none))) else (some (0,2)))=some (r1,r2):=by rw [if_pos rfl] at H;exact H
        clear H;have H:=H1;clear H1
        by_cases c9:2=0
        · exact absurd c9 (by decide)
        · rw [if_neg c9] at H
          have c9b0:(2==0)=false:=beq_eq_false_iff_ne.mpr c9;have c9b1:(2 !=0)=true:=bne_iff_ne.mpr c9;simp only [Option.some.injEq,Prod.mk.injEq] at H;obtain⟨rfl,rfl⟩:=H;go_wp2;go_ret2;exact⟨by first|rfl|(simp [errW_none,errW_some] <;> rfl)|(simp [*,errW_none,errW_some] <;> rfl),by repeat(first|(with_reducible first|exact HB.1|apply below_alloc|apply pw_below_drewN|apply below_drew1)|exact HB.1)⟩
      · replace c8:=Bool.eq_false_iff.mpr c8
        subst c8;have H1:(if t264=0 then ((spec_l06Indices.f kj4 a0).bind fun t270=>(if 0≤a2 then (if a2<(t270.length:Int) then (if a1=0 then (none) else (some (Int.tmod (rd t270 a2) a1,0))) else (none)) else (none))) else (some (0,t264)))=some (r1,r2):=by rw [if_neg (show ¬(false=true) by decide)] at H;exact H
        clear H;have H:=H1;clear H1
        by_cases c16:t264=0
        · rw [if_pos c16] at H
          have c16b0:(t264==0)=true:=beq_iff_eq.mpr c16;have c16b1:(t264 !=0)=false:=bne_eq_false_iff_eq.mpr c16;clear c16;replace H:=qOb H;obtain⟨t270,A170,H⟩:=H;replace H:(if 0≤a2 then (if a2<(t270.length:Int) then (if a1=0 then (none) else (some (Int.tmod (rd t270 a2) a1,0))) else (none)) else (none))=some (r1,r2):=H;have A17:=qAm A170;clear A170
          by_cases c18:0≤a2
          · rw [if_pos c18] at H
            have c18b0:decide (0≤a2)=true:=decide_eq_true c18;clear c18
            by_cases c19:a2<(t270.length:Int)
            · rw [if_pos c19] at H
              have c19b0:decide (a2<(t270.length:Int))=true:=decide_eq_true c19;clear c19
              by_cases c20:a1=0
              · rw [if_pos c20] at H
                exact absurd H (by simp)
              · rw [if_neg c20] at H
                have c20b0:(a1==0)=false:=beq_eq_false_iff_ne.mpr c20;have c20b1:(a1 !=0)=true:=bne_iff_ne.mpr c20;simp only [Option.some.injEq,Prod.mk.injEq] at H;obtain⟨rfl,rfl⟩:=H;go_wp2_with (first|((with_reducible refine gate_callee (f:=95) rfl ?_);refine goesL_ (some 25) rfl rfl Try.func95 (by kernel_rfl) rfl #[.int .i64 a0] rfl qB19 ?_;(with_reducible refine(spec_l06Indices.calls kj4 a0 t270 _ A17.1).mono ?_);rintro e w21 ⟨v271,rfl,ho0,hb⟩;refine⟨_,rfl,?_⟩;have n0_:=qAm (Kd.R_lower ho0 (below_size qB23));have n1_:=qAm (below_step qB23 hb);clear HB;have HO272:=n0_;have HB:=n1_;clear n0_ n1_;(try clear hb);(try clear hb2);(try clear hk);(try clear hi);(try clear ho0);obtain⟨Ao22,co22,eo22⟩:=Kd.R_slice HO272.1;subst eo22;have p273:0≤(a2:Int):=of_decide_eq_true qB56;have q273:a2<(t270.length:Int):=of_decide_eq_true qB56;obtain⟨ad273,e273,hx273_0⟩:=Kd.at_int (Kd.R_reads' HO272.1).2.2 a2 p273 q273;cases e273;replace p273:=eq_true p273;replace q273:=eq_true q273));go_ret2;exact⟨by first|rfl|(simp [errW_none,errW_some] <;> rfl)|(simp [*,errW_none,errW_some] <;> rfl),by repeat(first|(with_reducible first|exact HB.1|apply below_alloc|apply pw_below_drewN|apply below_drew1)|exact HB.1)⟩
            · rw [if_neg c19] at H
              exact absurd H (by simp)
          · rw [if_neg c18] at H
            exact absurd H (by simp)
        · rw [if_neg c16] at H
          have c16b0:(t264==0)=false:=beq_eq_false_iff_ne.mpr c16;have c16b1:(t264 !=0)=true:=bne_iff_ne.mpr c16;simp only [Option.some.injEq,Prod.mk.injEq] at H;obtain⟨rfl,rfl⟩:=H;go_wp2;go_ret2;exact⟨by first|rfl|(simp [errW_none,errW_some] <;> rfl)|(simp [*,errW_none,errW_some] <;> rfl),by repeat(first|(with_reducible first|exact HB.1|apply below_alloc|apply pw_below_drewN|apply below_drew1)|exact HB.1)⟩

/-! ### spec_DrawClassMembers: function 40 -/
def spec_DrawClassMembers.f (k:Nat) (l0:List Int):Option (Int×Int×Int):=(spec_l01From.f k l0).bind fun bt274=>((spec_l06Draw.f k bt274.1 bt274.2.1 bt274.2.2).bind fun bt278=>((spec_l01Next.f bt274.1 bt278.2.2.1 bt278.2.2.2 16).bind fun bt282=>((spec_l01Next.f bt274.1 bt282.2.1 bt282.2.2 (wrap64 ((mx bt278.2.1 1)+(wrap64 (Int.tdiv bt282.1 15))))).bind fun bt285=>(some (bt278.1,bt278.2.1,bt285.1)))))
theorem spec_DrawClassMembers.mono:∀a0 k,LeO (spec_DrawClassMembers.f k a0) (spec_DrawClassMembers.f (k+1) a0):=by
  intro a0 k;unfold spec_DrawClassMembers.f;repeat' first
      |(with_reducible exact spec_l01From.mono _ _)
      |(with_reducible exact spec_l06Draw.mono _ _ _ _)
      |(with_reducible exact LeO.refl _)
      |(with_reducible exact LeO.none _)
      |(with_reducible refine LeO.ite ?_ ?_)
      |(with_reducible refine LeO.bind ?_ (fun _=>?_))
      |exact spec_l01From.mono _ _
      |exact spec_l06Draw.mono _ _ _ _
      |exact LeO.none _
      |refine LeO.ite ?_ ?_
      |refine LeO.bind ?_ (fun _=>?_)
set_option maxHeartbeats 8000000 in
set_option maxRecDepth 100000 in
theorem spec_DrawClassMembers.calls (k:Nat) (A0:Option Addr) (c0:Nat) (l0:List Int) (r1:Int) (r2:Int) (r3:Int) (w:World) (hr0:Kd.C (Kd.int .u8) w A0 l0.length l0) (hc0:l0.length≤c0) (h:spec_DrawClassMembers.f k l0=some (r1,r2,r3)):
    Calls Try.prog 40 #[.slice A0 l0.length c0] w fun e w'=>e=.returned (.tuple #[.int .i64 r1,.int .i64 r2,.int .i64 r3])∧Below w.heap.size w w':=by
  have HR0:=qAm hr0;have HC0:=qAm hc0;clear hr0 hc0;have HB:=qAm (Below.refl w.heap.size w);have H:((spec_l01From.f k l0).bind fun bt274=>((spec_l06Draw.f k bt274.1 bt274.2.1 bt274.2.2).bind fun bt278=>((spec_l01Next.f bt274.1 bt278.2.2.1 bt278.2.2.2 16).bind fun bt282=>((spec_l01Next.f bt274.1 bt282.2.1 bt282.2.2 (wrap64 ((mx bt278.2.1 1)+(wrap64 (Int.tdiv bt282.1 15))))).bind fun bt285=>(some (bt278.1,bt278.2.1,bt285.1))))))=some (r1,r2,r3):=h;clear h;replace H:=qOb H;obtain⟨⟨t274,t275,t276⟩,A20,H⟩:=H;replace H:((spec_l06Draw.f k t274 t275 t276).bind fun bt278=>((spec_l01Next.f t274 bt278.2.2.1 bt278.2.2.2 16).bind fun bt282=>((spec_l01Next.f t274 bt282.2.1 bt282.2.2 (wrap64 ((mx bt278.2.1 1)+(wrap64 (Int.tdiv bt282.1 15))))).bind fun bt285=>(some (bt278.1,bt278.2.1,bt285.1)))))=some (r1,r2,r3):=H;have A2:=qAm A20;clear A20;replace H:=qOb H;obtain⟨⟨t278,t279,t280,t281⟩,A30,H⟩:=H;replace H:((spec_l01Next.f t274 t280 t281 16).bind fun bt282=>((spec_l01Next.f t274 bt282.2.1 bt282.2.2 (wrap64 ((mx t279 1)+(wrap64 (Int.tdiv bt282.1 15))))).bind fun bt285=>(some (t278,t279,bt285.1))))=some (r1,r2,r3):=H;have A3:=qAm A30;clear A30;obtain⟨ji4,hji4⟩:∃j_:Int,(mx t279 1)=j_:=⟨_,rfl⟩
  replace H:((spec_l01Next.f t274 t280 t281 16).bind fun bt282=>((spec_l01Next.f t274 bt282.2.1 bt282.2.2 (wrap64 ((ji4)+(wrap64 (Int.tdiv bt282.1 15))))).bind fun bt285=>(some (t278,t279,bt285.1))))=some (r1,r2,r3):=by first|(rw [hji4] at H;exact H)|(simp only [hji4] at H ⊢;exact H)
  (try rw [hji4] at A2)
  (try rw [hji4] at A3)
  (try(have hji4l:1≤ji4:=by (rw [← hji4];unfold mx;(repeat' split) <;> omega)))
  (try(have hji4m:0≤ji4:=by omega))
  have hji4_:(if t279<1 then 1 else t279)=ji4:=hji4;replace H:=qOb H;obtain⟨⟨t282,t283,t284⟩,A50,H⟩:=H;replace H:((spec_l01Next.f t274 t283 t284 (wrap64 ((ji4)+(wrap64 (Int.tdiv t282 15))))).bind fun bt285=>(some (t278,t279,bt285.1)))=some (r1,r2,r3):=H;have A5:=qAm A50;clear A50;replace H:=qOb H;obtain⟨⟨t285,t286,t287⟩,A60,H⟩:=H;replace H:(some (t278,t279,t285))=some (r1,r2,r3):=H;have A6:=qAm A60;clear A60;simp only [Option.some.injEq,Prod.mk.injEq] at H;obtain⟨rfl,rfl,rfl⟩:=H;go_enter Try.func40,Try.ntmps40;go_wp2_with (first|((with_reducible refine gate_callee (f:=91) rfl ?_);refine goesL_ (some 9) rfl rfl Try.func91 (by kernel_rfl) rfl #[.slice A0 l0.length c0] rfl qB19 ?_;(with_reducible refine(spec_l01From.calls k _ _ l0 t274 t275 t276 w _ ?side1 ?side2 ?side3 A2.1).mono ?_);(case side1=>repeat(first|(with_reducible first|exact HB.1|apply below_alloc|apply pw_below_drewN|apply below_drew1)|exact HB.1));(case side2=>exact HR0.1);(case side3=>exact HC0.1);rintro e w7 ⟨g277,rfl,hi,hb,hb2⟩;refine⟨_,rfl,?_⟩;have n0_:=qAm (hb);have n1_:=qAm (hi);clear HB;have HB:=n0_;have HI277:=n1_;clear n0_ n1_;(try clear hb);(try clear hb2);(try clear hk);(try clear hi))|((with_reducible refine gate_callee (f:=90) rfl ?_);refine goesL_ (some 12) rfl rfl Try.func90 (by kernel_rfl) rfl #[.pointer (some ⟨g277,0,none⟩)] rfl qB19 ?_;(with_reducible refine(spec_l06Draw.calls k g277 t274 t275 t276 t278 t279 t280 t281 w _ ?side1 ?side2 A3.1).mono ?_);(case side1=>repeat(first|(with_reducible first|exact HI277.1|apply IsS126.alloc|apply IsS126.drewN|apply IsS126.drew|apply IsS126.set_1|apply IsS126.set_2)|exact HI277.1));(case side2=>repeat(first|(with_reducible first|exact HB.1|apply below_alloc|apply pw_below_drewN|apply below_drew1|refine below_set ?_ (IsS126.ge HI277.1))|exact HB.1));rintro e w8 ⟨rfl,hi,hb,hk⟩;refine⟨_,rfl,?_⟩;have n0_:=qAm (hb);have n1_:=qAm (hi);clear HB;clear HI277;have HB:=n0_;have HI277:=n1_;clear n0_ n1_;(try clear hb);(try clear hb2);(try clear hk);(try clear hi))|((with_reducible refine gate_callee (f:=94) rfl ?_);refine goesL_ (some 21) rfl rfl Try.func94 (by kernel_rfl) rfl #[.pointer (some ⟨g277,0,none⟩),.int .i64 16] rfl qB19 ?_;(with_reducible refine(spec_l01Next.calls g277 t274 t280 t281 16 t282 t283 t284 w _ ?side1 ?side2 A5.1).mono ?_);(case side1=>repeat(first|(with_reducible first|exact HI277.1|apply IsS126.alloc|apply IsS126.drewN|apply IsS126.drew|apply IsS126.set_1|apply IsS126.set_2)|exact HI277.1));(case side2=>repeat(first|(with_reducible first|exact HB.1|apply below_alloc|apply pw_below_drewN|apply below_drew1|refine below_set ?_ (IsS126.ge HI277.1))|exact HB.1));rintro e w9 ⟨rfl,hi,hb,hk⟩;refine⟨_,rfl,?_⟩;have n0_:=qAm (hb);have n1_:=qAm (hi);clear HB;clear HI277;have HB:=n0_;have HI277:=n1_;clear n0_ n1_;(try clear hb);(try clear hb2);(try clear hk);(try clear hi))|((with_reducible refine gate_callee (f:=94) rfl ?_);refine goesL_ (some 24) rfl rfl Try.func94 (by kernel_rfl) rfl #[.pointer (some ⟨g277,0,none⟩),.int .i64 (wrap64 ((ji4)+(wrap64 (Int.tdiv t282 15))))] rfl qB13 ?_;(with_reducible refine(spec_l01Next.calls g277 t274 t283 t284 (wrap64 ((ji4)+(wrap64 (Int.tdiv t282 15)))) t285 t286 t287 w _ ?side1 ?side2 A6.1).mono ?_);(case side1=>repeat(first|(with_reducible first|exact HI277.1|apply IsS126.alloc|apply IsS126.drewN|apply IsS126.drew|apply IsS126.set_1|apply IsS126.set_2)|exact HI277.1));(case side2=>repeat(first|(with_reducible first|exact HB.1|apply below_alloc|apply pw_below_drewN|apply below_drew1|refine below_set ?_ (IsS126.ge HI277.1))|exact HB.1));rintro e w10 ⟨rfl,hi,hb,hk⟩;refine⟨_,rfl,?_⟩;have n0_:=qAm (hb);have n1_:=qAm (hi);clear HB;clear HI277;have HB:=n0_;have HI277:=n1_;clear n0_ n1_;(try clear hb);(try clear hb2);(try clear hk);(try clear hi)));go_ret3;exact⟨by first|rfl|(simp [errW_none,errW_some] <;> rfl)|(simp only [← hji4];first|rfl|(simp [errW_none,errW_some] <;> rfl))|(simp [*,errW_none,errW_some] <;> rfl),by repeat(first|(with_reducible first|exact HB.1|apply below_alloc|apply pw_below_drewN|apply below_drew1|refine below_set ?_ (IsS126.ge HI277.1))|exact HB.1)⟩

/-! ### impl_periods_members: function 96 -/
def impl_periods_members.l0:Nat→Int→List Int→List Int→Int→Int→Int→Int→Int→List Int→Option (List Int×Int×Int×Int)
  |0,_,_,_,_,_,_,_,_,_=>none
  |k+1,x1,x5,x12,x13,x14,x1000,x1001,x1002,x1003=>if x14<x13 then (if 0≤x14 then (if x14<(x12.length:Int) then (if (rd x12 x14)=x1 then (if x5.length<17592186044416 then (impl_periods_members.l0 k x1 (x5 ++ [x14]) x12 x13 (wrap64 (x14+1)) x1000 x1001 x1002 x1003) else (none)) else (impl_periods_members.l0 k x1 x5 x12 x13 (wrap64 (x14+1)) x1000 x1001 x1002 x1003)) else (none)) else (none)) else (some (x5,x1000,x1001,x1002))
def impl_periods_members.f (k:Nat) (s0_0:Int) (s0_1:Int) (s0_2:Int) (s0_3:List Int) (a1:Int):Option (List Int×Int×Int×Int):=impl_periods_members.l0 k a1 (([]:List Int)) s0_3 (s0_3.length:Int) 0 s0_0 s0_1 s0_2 s0_3
theorem impl_periods_members.mono_l:∀k,(∀y0 y1 y2 y3 y4 y5 y6 y7 y8,LeO (impl_periods_members.l0 k y0 y1 y2 y3 y4 y5 y6 y7 y8) (impl_periods_members.l0 (k+1) y0 y1 y2 y3 y4 y5 y6 y7 y8))
  |0=>fun _ _ _ _ _ _ _ _ _ r h=>by simp [impl_periods_members.l0] at h
  |k+1=>by
    have ih0:=impl_periods_members.mono_l k
    · intro y0 y1 y2 y3 y4 y5 y6 y7 y8
      unfold impl_periods_members.l0;repeat' first
      |(with_reducible exact ih0 _ _ _ _ _ _ _ _ _)
      |(with_reducible exact LeO.refl _)
      |(with_reducible exact LeO.none _)
      |(with_reducible refine LeO.ite ?_ ?_)
      |(with_reducible refine LeO.bind ?_ (fun _=>?_))
      |exact ih0 _ _ _ _ _ _ _ _ _
      |exact LeO.none _
      |refine LeO.ite ?_ ?_
      |refine LeO.bind ?_ (fun _=>?_)
theorem impl_periods_members.mono:∀a0 a1 a2 a3 a4 k,LeO (impl_periods_members.f k a0 a1 a2 a3 a4) (impl_periods_members.f (k+1) a0 a1 a2 a3 a4):=by
  intro a0 a1 a2 a3 a4 k;have ih0:=impl_periods_members.mono_l k;unfold impl_periods_members.f;repeat' first
      |(with_reducible exact ih0 _ _ _ _ _ _ _ _ _)
      |(with_reducible exact LeO.refl _)
      |(with_reducible exact LeO.none _)
      |(with_reducible refine LeO.ite ?_ ?_)
      |(with_reducible refine LeO.bind ?_ (fun _=>?_))
      |exact ih0 _ _ _ _ _ _ _ _ _
      |exact LeO.none _
      |refine LeO.ite ?_ ?_
      |refine LeO.bind ?_ (fun _=>?_)
set_option maxHeartbeats 8000000 in
set_option maxRecDepth 100000 in
theorem impl_periods_members.calls (k:Nat) (g:Nat) (s0_0:Int) (s0_1:Int) (s0_2:Int) (s0_3:List Int) (a1:Int) (r1:List Int) (r2:Int) (r3:Int) (r4:Int) (w0 w:World) (hI:IsS97 w0 w g s0_0 s0_1 s0_2 s0_3) (hB:Below w0.heap.size w0 w) (h:impl_periods_members.f k s0_0 s0_1 s0_2 s0_3 a1=some (r1,r2,r3,r4)):
    Calls Try.prog 96 #[.pointer (some ⟨g,0,none⟩),.int .i64 a1] w fun e w'=>∃v0_:Value,e=.returned (v0_)∧Kd.R (Kd.int .i64) 2 w' w.heap.size (fun _=>True) v0_ r1∧IsS97 w0 w' g r2 r3 r4 s0_3∧Below w0.heap.size w0 w'∧HKeep w w' g none:=by
  have HI0:=qAm hI;have HK:=qAm (HKeep.refl w g none);have HL:=qAm hB.size;clear hI;have HW0:=qAm hB.size;have HB:=qAm hB;clear hB;have H:(impl_periods_members.l0 k a1 (([]:List Int)) s0_3 (s0_3.length:Int) 0 s0_0 s0_1 s0_2 s0_3)=some (r1,r2,r3,r4):=h;clear h;obtain⟨y288,hy288⟩:∃y_:List Int,y_=(([]:List Int)):=⟨_,rfl⟩
  replace H:(impl_periods_members.l0 k a1 y288 s0_3 (s0_3.length:Int) 0 s0_0 s0_1 s0_2 s0_3)=some (r1,r2,r3,r4):=by first|(rw [hy288];with_reducible exact H)|(have H2_:=(Option.bind_some _ _).symm.trans H;rw [hy288];with_reducible exact H2_)|(have H2_:=(Option.bind_some _ _).symm.trans H;with_reducible exact H2_)|with_reducible exact H|(rw [hy288];exact H)|exact H
  have Ny288:=qAm hy288;clear hy288;have H':=qAm H;clear H;go_enter Try.func96,Try.ntmps96;go_wp2_with (first|((with_reducible refine gate_dst (N:=8) rfl ?_);refine Kd.R_lit (Kd.int .i64) _ 2 ?hg (N:=8) ?hd (xs:=([]:List Int)) (inner:=[]) (ok:=fun _=>True) (okp:=fun _=>True) ?hr ?hp (fun _ hk=>hk) trivial (Below.refl _ _) (Nat.le_refl _) (by simp) ?_;(case hd=>rfl);(case hg=>rfl);(case hr=>first|(go_simp;done)|(go_simp;rfl));(case hp=>exact(Reps.none _ _));intro v289 w3 ho4 hb hg_ hnew_;clear hg_ hnew_;(first|rw [← Ny288.1] at ho4|(simp only [Int.reduceToNat] at ho4;rw [← Ny288.1] at ho4));have n0_:=qAm (Kd.R_lower ho4 (hka_size (w:=w) (g:=g) (row:=none) qB26));have n1_:=qAm (IsS97.below qB9 hb);have n2_:=qAm (HKeep.trans qB26 (HKeep.of_below hb g none) (.inl rfl));have n3_:=qAm (below_step qB12 hb);clear HI0;clear HK;clear HB;have HO290:=n0_;have HI0:=n1_;have HK:=n2_;have HB:=n3_;clear n0_ n1_ n2_ n3_;clear hb ho4;obtain⟨ASz5_3,cSz5_3,HGz5,hgz5,HSz5_3⟩:=HI0.1;have hcz5_0:=cellS97_0 HGz5;have hcz5_1:=cellS97_1 HGz5;have hcz5_2:=cellS97_2 HGz5;have hcz5_3:=cellS97_3 HGz5;have hfz5_0:=blk_frozen HGz5 0;have hfz5_1:=blk_frozen HGz5 1;have hfz5_2:=blk_frozen HGz5 2;clear HGz5 hgz5));try simp only [Act.put,qSa,qSc,qSb]
  go_loopg [5,14] k (fun kq v5 v14 w'=>∃(x5_1:List Int) (x14_1:Int),v14=.int .i64 x14_1∧Aside0 (impl_periods_members.l0 kq a1 x5_1 s0_3 (s0_3.length:Int) x14_1 s0_0 s0_1 s0_2 s0_3=some (r1,r2,r3,r4))∧Aside0 (kq≤k)∧Aside0 (Kd.R (Kd.int .i64) 2 w' w.heap.size (fun _=>True) v5 x5_1)∧Aside0 (IsS97 w0 w' g s0_0 s0_1 s0_2 s0_3)∧Aside0 (HKeep w w' g none)∧Aside0 (Below w0.heap.size w0 w'))
  case atStart=>exact⟨(y288),(0),qB57,H',⟨Nat.le_refl _⟩,⟨by (with_reducible repeat(first|apply Kd.R_alloc|apply Kd.R_drewN|apply Kd.R_drew));exact HO290.1⟩,⟨by repeat(first|(with_reducible first|exact HI0.1|apply IsS97.alloc|apply IsS97.drewN|apply IsS97.drew|apply IsS97.set_0|apply IsS97.set_1|apply IsS97.set_2)|exact HI0.1)⟩,⟨by repeat(first|(with_reducible first|exact HK.1|apply hka_drewN|apply hka_drew|apply hka_alloc)|exact HK.1)⟩,⟨by repeat(first|(with_reducible first|exact HB.1|apply below_alloc|apply pw_below_drewN|apply below_drew1|refine below_set ?_ (IsS97.ge HI0.1))|exact HB.1)⟩⟩
  case round=>
    clear H';try clear p2
    try clear hcz5_0
    try clear hcz5_1
    try clear hcz5_2
    try clear hcz5_3
    try clear hfz5_0
    try clear hfz5_1
    try clear hfz5_2
    obtain⟨x5_1,x14_1,rfl,HA,HK1,HO_5,HI0,HK,HB⟩:=hrel;cases gk with
    |zero=>exact absurd HA.1 (by simp [impl_periods_members.l0])
    |succ k1=>
      have H:=HA.1;clear HA;simp only [impl_periods_members.l0] at H
      by_cases c6:x14_1<(s0_3.length:Int)
      · rw [if_pos c6] at H
        have c6b0:decide (x14_1<(s0_3.length:Int))=true:=decide_eq_true c6;clear c6
        by_cases c7:0≤x14_1
        · rw [if_pos c7] at H
          have c7b0:decide (0≤x14_1)=true:=decide_eq_true c7;clear c7
          by_cases c8:x14_1<(s0_3.length:Int)
          · rw [if_pos c8] at H
            have c8b0:decide (x14_1<(s0_3.length:Int))=true:=decide_eq_true c8;clear c8
            by_cases c9:(rd s0_3 x14_1)=a1
            · rw [if_pos c9] at H
              have c9b0:((rd s0_3 x14_1)==a1)=true:=beq_iff_eq.mpr c9;have c9b1:((rd s0_3 x14_1) !=a1)=false:=bne_eq_false_iff_eq.mpr c9;clear c9
              by_cases c10:x5_1.length<17592186044416
              · rw [if_pos c10] at H
                have LMc10:=qAm c10;clear c10;obtain⟨y292,hy292⟩:∃y_:List Int,y_=(x5_1 ++ [x14_1]):=⟨_,rfl⟩
                replace H:(impl_periods_members.l0 k1 a1 y292 s0_3 (s0_3.length:Int) (wrap64 (x14_1+1)) s0_0 s0_1 s0_2 s0_3)=some (r1,r2,r3,r4):=by first|(rw [hy292];with_reducible exact H)|(have H2_:=(Option.bind_some _ _).symm.trans H;rw [hy292];with_reducible exact H2_)|(have H2_:=(Option.bind_some _ _).symm.trans H;with_reducible exact H2_)|with_reducible exact H|(rw [hy292];exact H)|exact H
                have Ny292:=qAm hy292;clear hy292;have H':=qAm H;clear H;obtain⟨ASz11_3,cSz11_3,HGz11,hgz11,HSz11_3⟩:=HI0.1;have hcz11_0:=cellS97_0 HGz11;have hcz11_1:=cellS97_1 HGz11;have hcz11_2:=cellS97_2 HGz11;have hcz11_3:=cellS97_3 HGz11;have hfz11_0:=blk_frozen HGz11 0;have hfz11_1:=blk_frozen HGz11 1;have hfz11_2:=blk_frozen HGz11 2;clear HGz11 hgz11;have p291:0≤(x14_1:Int):=of_decide_eq_true qB56;have q291:x14_1<(s0_3.length:Int):=of_decide_eq_true qB56;obtain⟨ad291,e291,hx291_0⟩:=Kd.at_int HSz5_3 x14_1 p291 q291;cases e291
                replace hx291_0:=pw_cell_below HB.1 hx291_0;replace p291:=eq_true p291;replace q291:=eq_true q291;go_wp2_with (first|((with_reducible refine gate_builtin (b:=.append) (xs:=#[.tmp 22,.tmp 24]) rfl ?_);at_builtin;refine Kd.R_append (Kd.int .i64) w.heap.size rfl (.tmp 22) (.tmp 24) 22 2 (.int .i64 0) 8 rfl Try.underlying22 info2 rfl (by decide) (by omega) u5 x5_1 x14_1 [.int .i64 x14_1] (fun _=>True) (fun _=>False) rfl rfl ?aP (fun _ hk=>hk.elim) ?aF ?aO (Below.refl _ _) ?aS ?aL ?_;(case aP=>exact rfl);(case aF=>exact(fun _ _=>trivial));(case aO=>exact qB50);(case aS=>exact(hka_size (w:=w) (g:=g) (row:=none) qB26));(case aL=>have:=LMc10.1;omega);intro v293 w12 ho hb hg hat;rw [← Ny292.1] at ho;have n0_:=qAm (IsS97.grown qB9 hg (IsS97.own_ne HI0.1 HO_5.1 (by decide)));have n1_:=qAm (below_weaken qB12 HL.1 hb);have n2_:=qAm (HKeep.trans qB26 (HKeep.of_grown hg g) (Kd.R_base2 HO_5.1));have n3_:=qAm (ho);clear HI0;clear HB;clear HK;clear HO_5;have HI0:=n0_;have HB:=n1_;have HK:=n2_;have HO294:=n3_;clear n0_ n1_ n2_ n3_;clear ho hb hg hat))
                (first|go_roundg k1|((try simp only [add_plain] at *);go_roundg k1))
                case measure=>have:=HK1.1;omega
                case rel=>exact⟨(y292),(wrap64 (x14_1+1)),qB57,H',⟨by have:=HK1.1;omega⟩,⟨by (with_reducible repeat(first|apply Kd.R_alloc|apply Kd.R_drewN|apply Kd.R_drew));exact HO294.1⟩,⟨by repeat(first|(with_reducible first|exact HI0.1|apply IsS97.alloc|apply IsS97.drewN|apply IsS97.drew|apply IsS97.set_0|apply IsS97.set_1|apply IsS97.set_2)|exact HI0.1)⟩,⟨by repeat(first|(with_reducible first|exact HK.1|apply hka_drewN|apply hka_drew|apply hka_alloc)|exact HK.1)⟩,⟨by repeat(first|(with_reducible first|exact HB.1|apply below_alloc|apply pw_below_drewN|apply below_drew1|refine below_set ?_ (IsS97.ge HI0.1))|exact HB.1)⟩⟩
              · rw [if_neg c10] at H
                exact absurd H (by simp)
            · rw [if_neg c9] at H
              have c9b0:((rd s0_3 x14_1)==a1)=false:=beq_eq_false_iff_ne.mpr c9;have c9b1:((rd s0_3 x14_1) !=a1)=true:=bne_iff_ne.mpr c9;have H':=qAm H;clear H;obtain⟨ASz13_3,cSz13_3,HGz13,hgz13,HSz13_3⟩:=HI0.1;have hcz13_0:=cellS97_0 HGz13;have hcz13_1:=cellS97_1 HGz13;have hcz13_2:=cellS97_2 HGz13;have hcz13_3:=cellS97_3 HGz13;have hfz13_0:=blk_frozen HGz13 0;have hfz13_1:=blk_frozen HGz13 1;have hfz13_2:=blk_frozen HGz13 2;clear HGz13 hgz13;have p291:0≤(x14_1:Int):=of_decide_eq_true qB56;have q291:x14_1<(s0_3.length:Int):=of_decide_eq_true qB56;obtain⟨ad291,e291,hx291_0⟩:=Kd.at_int HSz5_3 x14_1 p291 q291;cases e291
              replace hx291_0:=pw_cell_below HB.1 hx291_0;replace p291:=eq_true p291;replace q291:=eq_true q291;go_wp2
              (first|go_roundg k1|((try simp only [add_plain] at *);go_roundg k1))
              case measure=>have:=HK1.1;omega
              case rel=>exact⟨(x5_1),(wrap64 (x14_1+1)),qB57,H',⟨by have:=HK1.1;omega⟩,⟨by (with_reducible repeat(first|apply Kd.R_alloc|apply Kd.R_drewN|apply Kd.R_drew));exact HO_5.1⟩,⟨by repeat(first|(with_reducible first|exact HI0.1|apply IsS97.alloc|apply IsS97.drewN|apply IsS97.drew|apply IsS97.set_0|apply IsS97.set_1|apply IsS97.set_2)|exact HI0.1)⟩,⟨by repeat(first|(with_reducible first|exact HK.1|apply hka_drewN|apply hka_drew|apply hka_alloc)|exact HK.1)⟩,⟨by repeat(first|(with_reducible first|exact HB.1|apply below_alloc|apply pw_below_drewN|apply below_drew1|refine below_set ?_ (IsS97.ge HI0.1))|exact HB.1)⟩⟩
          · rw [if_neg c8] at H
            exact absurd H (by simp)
        · rw [if_neg c7] at H
          exact absurd H (by simp)
      · rw [if_neg c6] at H
        have c6b0:decide (x14_1<(s0_3.length:Int))=false:=decide_eq_false c6;clear c6;simp only [Option.some.injEq,Prod.mk.injEq] at H;obtain⟨rfl,rfl,rfl,rfl⟩:=H;go_wp2;go_ret;exact⟨_,by first|rfl|(simp [errW_none,errW_some] <;> rfl)|(simp [*,errW_none,errW_some] <;> rfl),by (with_reducible repeat(first|apply Kd.R_alloc|apply Kd.R_drewN|apply Kd.R_drew));exact HO_5.1,by repeat(first|(with_reducible first|exact HI0.1|apply IsS97.alloc|apply IsS97.drewN|apply IsS97.drew|apply IsS97.set_0|apply IsS97.set_1|apply IsS97.set_2)|exact HI0.1),by repeat(first|(with_reducible first|exact HB.1|apply below_alloc|apply pw_below_drewN|apply below_drew1|refine below_set ?_ (IsS97.ge HI0.1))|exact HB.1),by repeat(first|(with_reducible first|exact HK.1|apply hka_drewN|apply hka_drew|apply hka_alloc)|exact HK.1)⟩

/-! ### impl_pmembers: function 164 -/
-- HAND
def impl_pmembers.f (k:Nat) (a0:Int) (a1:Int) (a2:Int) (l3:List Int) (a4:Int):Option (List Int):=(impl_periods_members.f k a0 a1 a2 l3 a4).bind fun d=>some d.1
theorem impl_pmembers.mono:∀a0 a1 a2 a3 a4 k,LeO (impl_pmembers.f k a0 a1 a2 a3 a4) (impl_pmembers.f (k+1) a0 a1 a2 a3 a4):=by
  intro a0 a1 a2 a3 a4 k;unfold impl_pmembers.f;repeat' first
      |(with_reducible exact impl_periodsOf.mono _ _ _)
      |(with_reducible exact LeO.refl _)
      |(with_reducible exact LeO.none _)
      |(with_reducible refine LeO.ite ?_ ?_)
      |(with_reducible refine LeO.bind ?_ (fun _=>?_))
      |exact impl_periodsOf.mono _ _ _
      |apply impl_periods_members.mono
      |exact LeO.none _
      |refine LeO.ite ?_ ?_
      |refine LeO.bind ?_ (fun _=>?_)

/-! ### impl_ClassMembers: function 41 -/
-- HAND
theorem impl_pmembers_cell (W:World) (g:Nat) (a:Addr) (h:a.block<g):({ W with heap:=W.heap.extract 0 g }:World).cell? a=W.cell? a:=by
  apply World.cell?_of_block
  show(W.heap.extract 0 g)[a.block]? =W.heap[a.block]?
  rw [Array.getElem?_extract]
  by_cases c:a.block<min g W.heap.size - 0
  · rw [if_pos c,Nat.zero_add]
  · rw [if_neg c]
    symm
    rw [Array.getElem?_eq_none]
    omega
theorem impl_pmembers_here (k g cq:Nat) (p e f:Int) (cls:List Int) (i:Int) (r:List Int) (Aq:Option Addr) (W:World) (hG:W.heap[g]? =some (.cells #[.int .i64 p,.int .i64 e,.int .i64 f,.slice Aq cls.length cq] 97 (0,0)))
    (hU:∀k_,(.slice Aq cls.length cq:Value).ownBlock=some k_→k_<g) (hC:Kd.C (Kd.int .i64) W Aq cls.length cls)
    (h:impl_pmembers.f k p e f cls i=some r):
    Calls Try.prog 96 #[.pointer (some ⟨g,0,none⟩),.int .i64 i] W fun e w'=>∃v0_:Value,e=.returned v0_∧Kd.R (Kd.int .i64) 2 w' W.heap.size (fun _=>True) v0_ r∧Below W.heap.size W w':=by
  unfold impl_pmembers.f at h;obtain⟨⟨r1,d2,d3,d4⟩,h1,h2⟩:=qOb h;obtain rfl:r1=r:=Option.some.inj h2;have hlt:=blk_lt hG;have hsz:({ W with heap:=W.heap.extract 0 g }:World).heap.size=g:=by show(W.heap.extract 0 g).size=g;rw [Array.size_extract];omega
  have hB:Below ({ W with heap:=W.heap.extract 0 g }:World).heap.size { W with heap:=W.heap.extract 0 g } W:=by
    rw [hsz];refine⟨rfl,rfl,rfl,by rw [hsz];omega,fun i hi=>?_⟩
    show W.heap[i]? =(W.heap.extract 0 g)[i]?
    rw [Array.getElem?_extract,if_pos (by omega),Nat.zero_add]
  have hC0:Kd.C (Kd.int .i64) { W with heap:=W.heap.extract 0 g } Aq cls.length cls:=by
    have hR:=Kd.reads_of_C (d:=(0:Int)) hC;refine Kd.C_of_reads (d:=(0:Int)) ⟨hR.1,hR.2.1,fun hn=>?_⟩;obtain⟨ad,ea,hc⟩:=hR.2.2 hn;refine⟨ad,ea,fun j hj=>?_⟩;have hb:ad.block<g:=hU ad.block (by rw [ea];rfl);rw [impl_pmembers_cell W g _ (by rw [add_block];exact hb)];exact hc j hj
  refine(impl_periods_members.calls k g p e f cls i r1 d2 d3 d4 _ W ⟨Aq,cq,hG,by rw [hsz];exact Nat.le_refl _,hC0⟩ hB h1).mono ?_;rintro e w' ⟨v,rfl,ho,hiS,hb,hk⟩;refine⟨v,rfl,ho,⟨hb.os,hb.tape,hb.output,hk.k.1,fun i hi=>?_⟩⟩
  by_cases c:i=g
  · subst c;exact hk.b hi (by simp)
  · exact hk.k.2 i hi c (by simp)
def impl_ClassMembers.f (k:Nat) (a0:Int) (a1:Int) (a2:Int):Option (List Int×Int):=(impl_periodsOf.f k a0 a1).bind fun bt305=>(if bt305.2.2.2.2=true then ((impl_within.f a2 0 (wrap64 (a1 - 1))).bind fun t313=>(if t313=true then ((impl_pmembers.f k bt305.1 bt305.2.1 bt305.2.2.1 bt305.2.2.2.1 a2).bind fun t314=>(some (t314,0))) else (some (([]:List Int),2)))) else (some (([]:List Int),2)))
theorem impl_ClassMembers.mono:∀a0 a1 a2 k,LeO (impl_ClassMembers.f k a0 a1 a2) (impl_ClassMembers.f (k+1) a0 a1 a2):=by
  intro a0 a1 a2 k;unfold impl_ClassMembers.f;repeat' first
      |(with_reducible exact impl_periodsOf.mono _ _ _)
      |(with_reducible exact impl_pmembers.mono _ _ _ _ _ _)
      |(with_reducible exact LeO.refl _)
      |(with_reducible exact LeO.none _)
      |(with_reducible refine LeO.ite ?_ ?_)
      |(with_reducible refine LeO.bind ?_ (fun _=>?_))
      |exact impl_periodsOf.mono _ _ _
      |exact impl_pmembers.mono _ _ _ _ _ _
      |exact LeO.none _
      |refine LeO.ite ?_ ?_
      |refine LeO.bind ?_ (fun _=>?_)
set_option maxHeartbeats 8000000 in
set_option maxRecDepth 100000 in
theorem impl_ClassMembers.calls (k:Nat) (a0:Int) (a1:Int) (a2:Int) (r1:List Int) (r2:Int) (w:World) (h:impl_ClassMembers.f k a0 a1 a2=some (r1,r2)):
    Calls Try.prog 41 #[.int .i64 a0,.int .i64 a1,.int .i64 a2] w fun e w'=>∃v0_:Value,e=.returned (.tuple #[v0_,.int .i64 r2])∧Kd.R (Kd.int .i64) 2 w' w.heap.size (fun _=>True) v0_ r1∧Below w.heap.size w w':=by
  have hu97:=Try.underlying97;have HB:=qAm (Below.refl w.heap.size w);have H:((impl_periodsOf.f k a0 a1).bind fun bt305=>(if bt305.2.2.2.2=true then ((impl_within.f a2 0 (wrap64 (a1 - 1))).bind fun t313=>(if t313=true then ((impl_pmembers.f k bt305.1 bt305.2.1 bt305.2.2.1 bt305.2.2.2.1 a2).bind fun t314=>(some (t314,0))) else (some (([]:List Int),2)))) else (some (([]:List Int),2))))=some (r1,r2):=h;clear h;replace H:=qOb H;obtain⟨⟨t305,t306,t307,t308,t311⟩,A40,H⟩:=H;replace H:(if t311=true then ((impl_within.f a2 0 (wrap64 (a1 - 1))).bind fun t313=>(if t313=true then ((impl_pmembers.f k t305 t306 t307 t308 a2).bind fun t314=>(some (t314,0))) else (some (([]:List Int),2)))) else (some (([]:List Int),2)))=some (r1,r2):=H;have A4:=qAm A40;clear A40
  by_cases c5:t311=true
  · subst c5
    have H1:((impl_within.f a2 0 (wrap64 (a1 - 1))).bind fun t313=>(if t313=true then ((impl_pmembers.f k t305 t306 t307 t308 a2).bind fun t314=>(some (t314,0))) else (some (([]:List Int),2))))=some (r1,r2):=by rw [if_pos rfl] at H;exact H
    clear H;have H:=H1;clear H1;replace H:=qOb H;obtain⟨t313,A60,H⟩:=H;replace H:(if t313=true then ((impl_pmembers.f k t305 t306 t307 t308 a2).bind fun t314=>(some (t314,0))) else (some (([]:List Int),2)))=some (r1,r2):=H;have A6:=qAm A60;clear A60
    by_cases c7:t313=true
    · subst c7
      have H1:((impl_pmembers.f k t305 t306 t307 t308 a2).bind fun t314=>(some (t314,0)))=some (r1,r2):=by rw [if_pos rfl] at H;exact H
      clear H;have H:=H1;clear H1;replace H:=qOb H;obtain⟨t314,A80,H⟩:=H;replace H:(some (t314,0))=some (r1,r2):=H;have A8:=qAm A80;clear A80;simp only [Option.some.injEq,Prod.mk.injEq] at H;obtain⟨rfl,rfl⟩:=H;go_enter Try.func41,Try.ntmps41;go_wp2_with (first|((with_reducible refine gate_callee (f:=81) rfl ?_);refine goesL_ (some 13) rfl rfl Try.func81 (by kernel_rfl) rfl #[.int .i64 a0,.int .i64 a1] rfl qB19 ?_;(with_reducible refine(impl_periodsOf.calls k a0 a1 t305 t306 t307 t308 true _ A4.1).mono ?_);rintro e w9 ⟨v309,rfl,ho0,hb⟩;refine⟨_,rfl,?_⟩;have n0_:=qAm (Kd.R_lower ho0 (below_size qB23));have n1_:=qAm (below_step qB23 hb);clear HB;have HO310:=n0_;have HB:=n1_;clear n0_ n1_;(try clear hb);(try clear hb2);(try clear hk);(try clear hi);(try clear ho0))|((with_reducible refine gate_dst (N:=8) rfl ?_);refine box_event ?hg (N:=8) ?hd (cs:=#[.int .i64 0,.int .i64 0,.int .i64 0,.slice none 0 0]) (t:=97) ?hr ?_;(case hd=>rfl);(case hg=>rfl);(case hr=>first|(go_simp;done)|(go_simp;rfl));intro gb312 hg w10 hbox hb;have HU_:Aside0 (∀k_,(v309:Value).ownBlock=some k_→k_<gb312):=qAm (fun k_ e_=>by rw [hg];exact Kd.R_lt HO310.1 k_ e_);have n0_:=qAm (Kd.R_below qB34 hb);have n1_:=qAm (below_step qB23 hb);have n2_:=qAm (hbox);have n3_:=qAm ((by rw [hg];exact(below_size qB23):w.heap.size≤gb312));have n4_:=qAm ((by rw [hg];exact(below_size qB23):w.heap.size≤gb312));clear HO310;clear HB;have HO310:=n0_;have HB:=n1_;have BK312:=n2_;have GW312:=n3_;have GE312:=n4_;clear n0_ n1_ n2_ n3_ n4_;clear hb hbox hg;have hcz11_0:w10.cell? ⟨gb312,0,none⟩=some (.int .i64 0):=(blk_cell BK312.1 0).trans rfl;have hcz11_1:w10.cell? ⟨gb312,1,none⟩=some (.int .i64 0):=(blk_cell BK312.1 1).trans rfl;have hcz11_2:w10.cell? ⟨gb312,2,none⟩=some (.int .i64 0):=(blk_cell BK312.1 2).trans rfl;have hcz11_3:w10.cell? ⟨gb312,3,none⟩=some (.slice none 0 0):=(blk_cell BK312.1 3).trans rfl;have hfz11_0:=blk_frozen BK312.1 0;have hfz11_1:=blk_frozen BK312.1 1;have hfz11_2:=blk_frozen BK312.1 2;have hfz11_3:=blk_frozen BK312.1 3;obtain⟨Ao12,co12,eo12⟩:=Kd.R_slice HO310.1;subst eo12)|(go_at_call 87;(with_reducible refine(impl_within.calls a2 0 (wrap64 (a1 - 1)) true _ A6.1).mono ?_);rintro e w' ⟨rfl,⟨nd,rfl⟩⟩)|((with_reducible refine gate_callee (f:=96) rfl ?_);refine goesL_ (some 26) rfl rfl Try.func96 (by kernel_rfl) rfl #[.pointer (some ⟨gb312,0,none⟩),.int .i64 a2] rfl qB19 ?_;refine Calls.mono (impl_pmembers_here k gb312 co12 t305 t306 t307 t308 a2 t314 Ao12 _ ?hG_ HU_.1 ?side1 A8.1) ?_;(case hG_=>exact qB1);(case side1=>refine(Kd.R_reads' (e:=2) (base:=w.heap.size) (ok:=fun k_=>True) (n:=t308.length) (c:=co12) ?_).2.2;exact qB4);rintro e w13 ⟨v315,rfl,ho0,hb⟩;refine⟨_,rfl,?_⟩;have n0_:=qAm (Kd.R_elder' qB4 (Kd.R_base ho0) hb);have n1_:=qAm (Kd.R_lower (Kd.R_new' ho0 (Kd.R_lt qB4)) (below_size qB15));have n2_:=qAm (blk_below (g:=gb312) (o:=.cells #[.int .i64 t305,.int .i64 t306,.int .i64 t307,.slice Ao12 t308.length co12] 97 (0,0)) qB1 hb);have n3_:=qAm (below_step qB15 hb);clear HO310;clear BK312;clear HB;have HO310:=n0_;have HO316:=n1_;have BK312:=n2_;have HB:=n3_;clear n0_ n1_ n2_ n3_;(try clear hb);(try clear hb2);(try clear hk);(try clear hi);(try clear ho0)));go_ret2;exact⟨_,by first|rfl|(simp [errW_none,errW_some] <;> rfl)|(simp [*,errW_none,errW_some] <;> rfl),by (with_reducible repeat(first|apply Kd.R_alloc|apply Kd.R_drewN|apply Kd.R_drew));exact Kd.R_mono HO316.1 (fun _ hk=>trivial),by repeat(first|(with_reducible first|exact HB.1|apply below_alloc|apply pw_below_drewN|apply below_drew1|refine below_set ?_ GE312.1)|exact HB.1)⟩
    · replace c7:=Bool.eq_false_iff.mpr c7
      subst c7;have H1:(some (([]:List Int),2))=some (r1,r2):=by rw [if_neg (show ¬(false=true) by decide)] at H;exact H
      clear H;have H:=H1;clear H1;simp only [Option.some.injEq,Prod.mk.injEq] at H;obtain⟨rfl,rfl⟩:=H;go_enter Try.func41,Try.ntmps41;go_wp2_with (first|((with_reducible refine gate_callee (f:=81) rfl ?_);refine goesL_ (some 13) rfl rfl Try.func81 (by kernel_rfl) rfl #[.int .i64 a0,.int .i64 a1] rfl qB19 ?_;(with_reducible refine(impl_periodsOf.calls k a0 a1 t305 t306 t307 t308 true _ A4.1).mono ?_);rintro e w14 ⟨v309,rfl,ho0,hb⟩;refine⟨_,rfl,?_⟩;have n0_:=qAm (Kd.R_lower ho0 (below_size qB23));have n1_:=qAm (below_step qB23 hb);clear HB;have HO310:=n0_;have HB:=n1_;clear n0_ n1_;(try clear hb);(try clear hb2);(try clear hk);(try clear hi);(try clear ho0))|((with_reducible refine gate_dst (N:=8) rfl ?_);refine box_event ?hg (N:=8) ?hd (cs:=#[.int .i64 0,.int .i64 0,.int .i64 0,.slice none 0 0]) (t:=97) ?hr ?_;(case hd=>rfl);(case hg=>rfl);(case hr=>first|(go_simp;done)|(go_simp;rfl));intro gb312 hg w15 hbox hb;have HU_:Aside0 (∀k_,(v309:Value).ownBlock=some k_→k_<gb312):=qAm (fun k_ e_=>by rw [hg];exact Kd.R_lt HO310.1 k_ e_);have n0_:=qAm (Kd.R_below qB34 hb);have n1_:=qAm (below_step qB23 hb);have n2_:=qAm (hbox);have n3_:=qAm ((by rw [hg];exact(below_size qB23):w.heap.size≤gb312));have n4_:=qAm ((by rw [hg];exact(below_size qB23):w.heap.size≤gb312));clear HO310;clear HB;have HO310:=n0_;have HB:=n1_;have BK312:=n2_;have GW312:=n3_;have GE312:=n4_;clear n0_ n1_ n2_ n3_ n4_;clear hb hbox hg;have hcz16_0:w15.cell? ⟨gb312,0,none⟩=some (.int .i64 0):=(blk_cell BK312.1 0).trans rfl;have hcz16_1:w15.cell? ⟨gb312,1,none⟩=some (.int .i64 0):=(blk_cell BK312.1 1).trans rfl;have hcz16_2:w15.cell? ⟨gb312,2,none⟩=some (.int .i64 0):=(blk_cell BK312.1 2).trans rfl;have hcz16_3:w15.cell? ⟨gb312,3,none⟩=some (.slice none 0 0):=(blk_cell BK312.1 3).trans rfl;have hfz16_0:=blk_frozen BK312.1 0;have hfz16_1:=blk_frozen BK312.1 1;have hfz16_2:=blk_frozen BK312.1 2;have hfz16_3:=blk_frozen BK312.1 3;obtain⟨Ao17,co17,eo17⟩:=Kd.R_slice HO310.1;subst eo17)|(go_at_call 87;(with_reducible refine(impl_within.calls a2 0 (wrap64 (a1 - 1)) false _ A6.1).mono ?_);rintro e w' ⟨rfl,⟨nd,rfl⟩⟩));go_ret2;exact⟨_,by first|rfl|(simp [errW_none,errW_some] <;> rfl)|(simp [*,errW_none,errW_some] <;> rfl),by first|exact Kd.R_nil _ _ _ _ _|exact Kd.N_nil _ _ _ _ _|exact Kd.V_nil _ _ _ _ _|exact Kd.Q_nil _ _ _ _ _|exact Kd.S_nil _ _ _ _ _,by repeat(first|(with_reducible first|exact HB.1|apply below_alloc|apply pw_below_drewN|apply below_drew1|refine below_set ?_ GE312.1)|exact HB.1)⟩
  · replace c5:=Bool.eq_false_iff.mpr c5
    subst c5;have H1:(some (([]:List Int),2))=some (r1,r2):=by rw [if_neg (show ¬(false=true) by decide)] at H;exact H
    clear H;have H:=H1;clear H1;simp only [Option.some.injEq,Prod.mk.injEq] at H;obtain⟨rfl,rfl⟩:=H;go_enter Try.func41,Try.ntmps41;go_wp2_with (first|((with_reducible refine gate_callee (f:=81) rfl ?_);refine goesL_ (some 13) rfl rfl Try.func81 (by kernel_rfl) rfl #[.int .i64 a0,.int .i64 a1] rfl qB19 ?_;(with_reducible refine(impl_periodsOf.calls k a0 a1 t305 t306 t307 t308 false _ A4.1).mono ?_);rintro e w18 ⟨v309,rfl,ho0,hb⟩;refine⟨_,rfl,?_⟩;have n0_:=qAm (Kd.R_lower ho0 (below_size qB23));have n1_:=qAm (below_step qB23 hb);clear HB;have HO310:=n0_;have HB:=n1_;clear n0_ n1_;(try clear hb);(try clear hb2);(try clear hk);(try clear hi);(try clear ho0))|((with_reducible refine gate_dst (N:=8) rfl ?_);refine box_event ?hg (N:=8) ?hd (cs:=#[.int .i64 0,.int .i64 0,.int .i64 0,.slice none 0 0]) (t:=97) ?hr ?_;(case hd=>rfl);(case hg=>rfl);(case hr=>first|(go_simp;done)|(go_simp;rfl));intro gb312 hg w19 hbox hb;have HU_:Aside0 (∀k_,(v309:Value).ownBlock=some k_→k_<gb312):=qAm (fun k_ e_=>by rw [hg];exact Kd.R_lt HO310.1 k_ e_);have n0_:=qAm (Kd.R_below qB34 hb);have n1_:=qAm (below_step qB23 hb);have n2_:=qAm (hbox);have n3_:=qAm ((by rw [hg];exact(below_size qB23):w.heap.size≤gb312));have n4_:=qAm ((by rw [hg];exact(below_size qB23):w.heap.size≤gb312));clear HO310;clear HB;have HO310:=n0_;have HB:=n1_;have BK312:=n2_;have GW312:=n3_;have GE312:=n4_;clear n0_ n1_ n2_ n3_ n4_;clear hb hbox hg;have hcz20_0:w19.cell? ⟨gb312,0,none⟩=some (.int .i64 0):=(blk_cell BK312.1 0).trans rfl;have hcz20_1:w19.cell? ⟨gb312,1,none⟩=some (.int .i64 0):=(blk_cell BK312.1 1).trans rfl;have hcz20_2:w19.cell? ⟨gb312,2,none⟩=some (.int .i64 0):=(blk_cell BK312.1 2).trans rfl;have hcz20_3:w19.cell? ⟨gb312,3,none⟩=some (.slice none 0 0):=(blk_cell BK312.1 3).trans rfl;have hfz20_0:=blk_frozen BK312.1 0;have hfz20_1:=blk_frozen BK312.1 1;have hfz20_2:=blk_frozen BK312.1 2;have hfz20_3:=blk_frozen BK312.1 3;obtain⟨Ao21,co21,eo21⟩:=Kd.R_slice HO310.1;subst eo21));go_ret2;exact⟨_,by first|rfl|(simp [errW_none,errW_some] <;> rfl)|(simp [*,errW_none,errW_some] <;> rfl),by first|exact Kd.R_nil _ _ _ _ _|exact Kd.N_nil _ _ _ _ _|exact Kd.V_nil _ _ _ _ _|exact Kd.Q_nil _ _ _ _ _|exact Kd.S_nil _ _ _ _ _,by repeat(first|(with_reducible first|exact HB.1|apply below_alloc|apply pw_below_drewN|apply below_drew1|refine below_set ?_ GE312.1)|exact HB.1)⟩

/-! ### spec_ClassMembers: function 42 -/
def spec_ClassMembers.l0:Nat→Int→Int→Int→List Int→List Int→Int→Option (List Int×Int)
  |0,_,_,_,_,_,_=>none
  |k+1,x0,x1,x2,x9,x10,x11=>if x11<x0 then (if 0≤x11 then (if x11<(x9.length:Int) then (if x1=0 then (none) else (if (Int.tmod (rd x9 x11) x1)=x2 then (if x10.length<17592186044416 then (spec_ClassMembers.l0 k x0 x1 x2 x9 (x10 ++ [x11]) (wrap64 (x11+1))) else (none)) else (spec_ClassMembers.l0 k x0 x1 x2 x9 x10 (wrap64 (x11+1))))) else (none)) else (none)) else (some (x10,0))
def spec_ClassMembers.f (k:Nat) (a0:Int) (a1:Int) (a2:Int):Option (List Int×Int):=(spec_l06Code.f k a0 a1 (([a2]:List Int))).bind fun t320=>(if t320=0 then ((spec_l06Indices.f k a0).bind fun t321=>(spec_ClassMembers.l0 k a0 a1 a2 t321 (([]:List Int)) 1)) else (some (([]:List Int),t320)))
theorem spec_ClassMembers.mono_l:∀k,(∀y0 y1 y2 y3 y4 y5,LeO (spec_ClassMembers.l0 k y0 y1 y2 y3 y4 y5) (spec_ClassMembers.l0 (k+1) y0 y1 y2 y3 y4 y5))
  |0=>fun _ _ _ _ _ _ r h=>by simp [spec_ClassMembers.l0] at h
  |k+1=>by
    have ih0:=spec_ClassMembers.mono_l k
    · intro y0 y1 y2 y3 y4 y5
      unfold spec_ClassMembers.l0;repeat' first
      |(with_reducible exact ih0 _ _ _ _ _ _)
      |(with_reducible exact spec_l06Code.mono _ _ _ _)
      |(with_reducible exact spec_l06Indices.mono _ _)
      |(with_reducible exact LeO.refl _)
      |(with_reducible exact LeO.none _)
      |(with_reducible refine LeO.ite ?_ ?_)
      |(with_reducible refine LeO.bind ?_ (fun _=>?_))
      |exact ih0 _ _ _ _ _ _
      |exact spec_l06Code.mono _ _ _ _
      |exact spec_l06Indices.mono _ _
      |exact LeO.none _
      |refine LeO.ite ?_ ?_
      |refine LeO.bind ?_ (fun _=>?_)
theorem spec_ClassMembers.mono:∀a0 a1 a2 k,LeO (spec_ClassMembers.f k a0 a1 a2) (spec_ClassMembers.f (k+1) a0 a1 a2):=by
  intro a0 a1 a2 k;have ih0:=spec_ClassMembers.mono_l k;unfold spec_ClassMembers.f;repeat' first
      |(with_reducible exact ih0 _ _ _ _ _ _)
      |(with_reducible exact spec_l06Code.mono _ _ _ _)
      |(with_reducible exact spec_l06Indices.mono _ _)
      |(with_reducible exact LeO.refl _)
      |(with_reducible exact LeO.none _)
      |(with_reducible refine LeO.ite ?_ ?_)
      |(with_reducible refine LeO.bind ?_ (fun _=>?_))
      |exact ih0 _ _ _ _ _ _
      |exact spec_l06Code.mono _ _ _ _
      |exact spec_l06Indices.mono _ _
      |exact LeO.none _
      |refine LeO.ite ?_ ?_
      |refine LeO.bind ?_ (fun _=>?_)
set_option maxHeartbeats 8000000 in
set_option maxRecDepth 100000 in
theorem spec_ClassMembers.calls (k:Nat) (a0:Int) (a1:Int) (a2:Int) (r1:List Int) (r2:Int) (w:World) (h:spec_ClassMembers.f k a0 a1 a2=some (r1,r2)):
    Calls Try.prog 42 #[.int .i64 a0,.int .i64 a1,.int .i64 a2] w fun e w'=>∃v0_:Value,e=.returned (.tuple #[v0_,.int .i64 r2])∧Kd.R (Kd.int .i64) 2 w' w.heap.size (fun _=>True) v0_ r1∧Below w.heap.size w w':=by
  have HB:=qAm (Below.refl w.heap.size w);have H:((spec_l06Code.f k a0 a1 (([a2]:List Int))).bind fun t320=>(if t320=0 then ((spec_l06Indices.f k a0).bind fun t321=>(spec_ClassMembers.l0 k a0 a1 a2 t321 (([]:List Int)) 1)) else (some (([]:List Int),t320))))=some (r1,r2):=h;clear h;obtain⟨y317,hy317⟩:∃y_:List Int,y_=(([a2]:List Int)):=⟨_,rfl⟩
  replace H:((spec_l06Code.f k a0 a1 y317).bind fun t320=>(if t320=0 then ((spec_l06Indices.f k a0).bind fun t321=>(spec_ClassMembers.l0 k a0 a1 a2 t321 (([]:List Int)) 1)) else (some (([]:List Int),t320))))=some (r1,r2):=by first|(rw [hy317];with_reducible exact H)|(have H2_:=(Option.bind_some _ _).symm.trans H;rw [hy317];with_reducible exact H2_)|(have H2_:=(Option.bind_some _ _).symm.trans H;with_reducible exact H2_)|with_reducible exact H|(rw [hy317];exact H)|exact H
  have Ny317:=qAm hy317;clear hy317;replace H:=qOb H;obtain⟨t320,A40,H⟩:=H;replace H:(if t320=0 then ((spec_l06Indices.f k a0).bind fun t321=>(spec_ClassMembers.l0 k a0 a1 a2 t321 (([]:List Int)) 1)) else (some (([]:List Int),t320)))=some (r1,r2):=H;have A4:=qAm A40;clear A40
  by_cases c5:t320=0
  · rw [if_pos c5] at H
    have c5b0:(t320==0)=true:=beq_iff_eq.mpr c5;have c5b1:(t320 !=0)=false:=bne_eq_false_iff_eq.mpr c5;clear c5;replace H:=qOb H;obtain⟨t321,A60,H⟩:=H;replace H:(spec_ClassMembers.l0 k a0 a1 a2 t321 (([]:List Int)) 1)=some (r1,r2):=H;have A6:=qAm A60;clear A60;obtain⟨y324,hy324⟩:∃y_:List Int,y_=(([]:List Int)):=⟨_,rfl⟩
    replace H:(spec_ClassMembers.l0 k a0 a1 a2 t321 y324 1)=some (r1,r2):=by first|(rw [hy324];with_reducible exact H)|(have H2_:=(Option.bind_some _ _).symm.trans H;rw [hy324];with_reducible exact H2_)|(have H2_:=(Option.bind_some _ _).symm.trans H;with_reducible exact H2_)|with_reducible exact H|(rw [hy324];exact H)|exact H
    have Ny324:=qAm hy324;clear hy324;have H':=qAm H;clear H;go_enter Try.func42,Try.ntmps42;go_wp2_with (first|((with_reducible refine gate_dst (N:=15) rfl ?_);refine Kd.R_lit (Kd.int .i64) _ 2 ?hg (N:=15) ?hd (xs:=([a2]:List Int)) (inner:=[.int .i64 a2]) (ok:=fun _=>True) (okp:=fun _=>True) ?hr ?hp (fun _ hk=>hk) trivial (Below.refl _ _) (Nat.le_refl _) (by simp) ?_;(case hd=>rfl);(case hg=>rfl);(case hr=>first|(go_simp;done)|(go_simp;rfl));(case hp=>exact(Reps.one (show Kd.M (Kd.int .i64) _ _ _ a2 [.int .i64 a2] from rfl) (Reps.none _ _)));intro v318 w7 ho8 hb hg_ hnew_;clear hg_ hnew_;(first|rw [← Ny317.1] at ho8|(simp only [Int.reduceToNat] at ho8;rw [← Ny317.1] at ho8));have n0_:=qAm (Kd.R_lower ho8 (below_size qB23));have n1_:=qAm (below_step qB23 hb);clear HB;have HO319:=n0_;have HB:=n1_;clear n0_ n1_;clear hb ho8;obtain⟨Ao9,co9,eo9⟩:=Kd.R_slice HO319.1;subst eo9)|((with_reducible refine gate_callee (f:=79) rfl ?_);refine goesL_ (some 16) rfl rfl Try.func79 (by kernel_rfl) rfl #[.int .i64 a0,.int .i64 a1,.slice Ao9 y317.length co9] rfl qB19 ?_;(with_reducible refine(spec_l06Code.calls k a0 a1 _ _ y317 t320 _ ?side1 ?side2 A4.1).mono ?_);(case side1=>repeat(first|exact(Kd.R_reads' HO319.1).2.2|(with_reducible refine Kd.C_alloc ?_ _)|(with_reducible refine Kd.C_drewN ?_ _)|(with_reducible refine Kd.C_drew ?_)));(case side2=>exact(Kd.R_reads' HO319.1).2.1);rintro e w' ⟨rfl,⟨nd,rfl⟩⟩;refine⟨_,rfl,?_⟩)|((with_reducible refine gate_callee (f:=95) rfl ?_);refine goesL_ (some 21) rfl rfl Try.func95 (by kernel_rfl) rfl #[.int .i64 a0] rfl qB19 ?_;(with_reducible refine(spec_l06Indices.calls k a0 t321 _ A6.1).mono ?_);rintro e w10 ⟨v322,rfl,ho0,hb⟩;refine⟨_,rfl,?_⟩;have n0_:=qAm (Kd.R_elder' qB35 (Kd.R_base ho0) hb);have n1_:=qAm (Kd.R_lower (Kd.R_new' ho0 (Kd.R_lt qB35)) (below_size qB23));have n2_:=qAm (below_step qB23 hb);clear HO319;clear HB;have HO319:=n0_;have HO323:=n1_;have HB:=n2_;clear n0_ n1_ n2_;(try clear hb);(try clear hb2);(try clear hk);(try clear hi);(try clear ho0))|((with_reducible refine gate_dst (N:=22) rfl ?_);refine Kd.R_lit (Kd.int .i64) _ 2 ?hg (N:=22) ?hd (xs:=([]:List Int)) (inner:=[]) (ok:=fun _=>True) (okp:=fun _=>True) ?hr ?hp (fun _ hk=>hk) trivial (Below.refl _ _) (Nat.le_refl _) (by simp) ?_;(case hd=>rfl);(case hg=>rfl);(case hr=>first|(go_simp;done)|(go_simp;rfl));(case hp=>exact(Reps.none _ _));intro v325 w11 ho12 hb hg_ hnew_;clear hg_ hnew_;(first|rw [← Ny324.1] at ho12|(simp only [Int.reduceToNat] at ho12;rw [← Ny324.1] at ho12));have n0_:=qAm (Kd.R_elder' qB35 (Kd.R_base ho12) hb);have n1_:=qAm (Kd.R_elder' qB36 (Kd.R_base ho12) hb);have n2_:=qAm (Kd.R_lower (Kd.R_new' (Kd.R_new' ho12 (Kd.R_lt qB35)) (Kd.R_lt qB36)) (below_size qB23));have n3_:=qAm (below_step qB23 hb);clear HO319;clear HO323;clear HB;have HO319:=n0_;have HO323:=n1_;have HO326:=n2_;have HB:=n3_;clear n0_ n1_ n2_ n3_;clear hb ho12));try simp only [Act.put,qSa,qSc,qSb]
    go_loopg [10,11] k (fun kq v10 v11 w'=>∃(x10_1:List Int) (x11_1:Int),v11=.int .i64 x11_1∧Aside0 (spec_ClassMembers.l0 kq a0 a1 a2 t321 x10_1 x11_1=some (r1,r2))∧Aside0 (kq≤k)∧Aside0 (Kd.R (Kd.int .i64) 2 w' w.heap.size (fun k_=>some k_≠(v10:Value).ownBlock) v322 t321)∧Aside0 (Kd.R (Kd.int .i64) 2 w' w.heap.size (fun k_=>some k_≠(v322:Value).ownBlock) v10 x10_1)∧Aside0 (Below w.heap.size w w'))
    case atStart=>exact⟨(y324),(1),qB57,H',⟨Nat.le_refl _⟩,⟨by (with_reducible repeat(first|apply Kd.R_alloc|apply Kd.R_drewN|apply Kd.R_drew));exact Kd.R_mono HO323.1 (fun _ hk=>hk.2)⟩,⟨by (with_reducible repeat(first|apply Kd.R_alloc|apply Kd.R_drewN|apply Kd.R_drew));exact Kd.R_mono HO326.1 (fun _ hk=>hk.2)⟩,⟨by repeat(first|(with_reducible first|exact HB.1|apply below_alloc|apply pw_below_drewN|apply below_drew1)|exact HB.1)⟩⟩
    case round=>
      clear H';try clear p2
      try clear c4
      try clear c5
      try clear c5b0
      try clear c5b1
      try clear c7
      try clear c9
      obtain⟨x10_1,x11_1,rfl,HA,HK1,HO_9,HO_10,HB⟩:=hrel;cases gk with
      |zero=>exact absurd HA.1 (by simp [spec_ClassMembers.l0])
      |succ k1=>
        have H:=HA.1;clear HA;simp only [spec_ClassMembers.l0] at H
        by_cases c13:x11_1<a0
        · rw [if_pos c13] at H
          have c13b0:decide (x11_1<a0)=true:=decide_eq_true c13;clear c13
          by_cases c14:0≤x11_1
          · rw [if_pos c14] at H
            have c14b0:decide (0≤x11_1)=true:=decide_eq_true c14;clear c14
            by_cases c15:x11_1<(t321.length:Int)
            · rw [if_pos c15] at H
              have c15b0:decide (x11_1<(t321.length:Int))=true:=decide_eq_true c15;clear c15
              by_cases c16:a1=0
              · rw [if_pos c16] at H
                exact absurd H (by simp)
              · rw [if_neg c16] at H
                have c16b0:(a1==0)=false:=beq_eq_false_iff_ne.mpr c16;have c16b1:(a1 !=0)=true:=bne_iff_ne.mpr c16
                by_cases c17:(Int.tmod (rd t321 x11_1) a1)=a2
                · rw [if_pos c17] at H
                  have c17b0:((Int.tmod (rd t321 x11_1) a1)==a2)=true:=beq_iff_eq.mpr c17;have c17b1:((Int.tmod (rd t321 x11_1) a1) !=a2)=false:=bne_eq_false_iff_eq.mpr c17;clear c17
                  by_cases c18:x10_1.length<17592186044416
                  · rw [if_pos c18] at H
                    have LMc18:=qAm c18;clear c18;obtain⟨y328,hy328⟩:∃y_:List Int,y_=(x10_1 ++ [x11_1]):=⟨_,rfl⟩
                    replace H:(spec_ClassMembers.l0 k1 a0 a1 a2 t321 y328 (wrap64 (x11_1+1)))=some (r1,r2):=by first|(rw [hy328];with_reducible exact H)|(have H2_:=(Option.bind_some _ _).symm.trans H;rw [hy328];with_reducible exact H2_)|(have H2_:=(Option.bind_some _ _).symm.trans H;with_reducible exact H2_)|with_reducible exact H|(rw [hy328];exact H)|exact H
                    have Ny328:=qAm hy328;clear hy328;have H':=qAm H;clear H;obtain⟨Ao19,co19,eo19⟩:=Kd.R_slice HO_9.1;subst eo19;have p327:0≤(x11_1:Int):=of_decide_eq_true qB56;have q327:x11_1<(t321.length:Int):=of_decide_eq_true qB56;obtain⟨ad327,e327,hx327_0⟩:=Kd.at_int (Kd.R_reads' HO_9.1).2.2 x11_1 p327 q327;cases e327
                    replace p327:=eq_true p327;replace q327:=eq_true q327;go_wp2_with (first|((with_reducible refine gate_builtin (b:=.append) (xs:=#[.tmp 36,.tmp 38]) rfl ?_);at_builtin;refine Kd.R_append (Kd.int .i64) (w0:=w) w.heap.size rfl (.tmp 36) (.tmp 38) 22 2 (.int .i64 0) 8 rfl Try.underlying22 info2 rfl (by decide) (by omega) u10 x10_1 x11_1 [.int .i64 x11_1] (fun k_=>some k_≠(.slice (some ad327) t321.length co19:Value).ownBlock) (fun _=>False) rfl rfl ?aP (fun _ hk=>hk.elim) ?aF ?aO ?aB ?aS ?aL ?_;(case aP=>exact rfl);(case aB=>exact qB23);(case aF=>exact(fun k_ hk=>Kd.fresh' (Kd.R_lt (by (with_reducible repeat(first|apply Kd.R_alloc|apply Kd.R_drewN|apply Kd.R_drew));exact HO_9.1)) k_ hk));(case aO=>exact(by (with_reducible repeat(first|apply Kd.R_alloc|apply Kd.R_drewN|apply Kd.R_drew));exact HO_10.1));(case aS=>exact(below_size qB23));(case aL=>have:=LMc18.1;omega);intro v329 w20 ho hb hg hat;rw [← Ny328.1] at ho;have n0_:=qAm (Kd.R_after (ok:=(fun _=>True)) (by (with_reducible repeat(first|apply Kd.R_alloc|apply Kd.R_drewN|apply Kd.R_drew));exact Kd.R_mono HO_9.1 (fun _ hk=>⟨trivial,hk⟩)) hg hat);have n1_:=qAm (hb);have n2_:=qAm (ho);clear HO_9;clear HB;clear HO_10;have HO_9:=n0_;have HB:=n1_;have HO330:=n2_;clear n0_ n1_ n2_;clear ho hb hg hat))
                    (first|go_roundg k1|((try simp only [add_plain] at *);go_roundg k1))
                    case measure=>have:=HK1.1;omega
                    case rel=>exact⟨(y328),(wrap64 (x11_1+1)),qB57,H',⟨by have:=HK1.1;omega⟩,⟨by (with_reducible repeat(first|apply Kd.R_alloc|apply Kd.R_drewN|apply Kd.R_drew));exact Kd.R_mono HO_9.1 (fun _ hk=>hk.2)⟩,⟨by (with_reducible repeat(first|apply Kd.R_alloc|apply Kd.R_drewN|apply Kd.R_drew));exact HO330.1⟩,⟨by repeat(first|(with_reducible first|exact HB.1|apply below_alloc|apply pw_below_drewN|apply below_drew1)|exact HB.1)⟩⟩
                  · rw [if_neg c18] at H
                    exact absurd H (by simp)
                · rw [if_neg c17] at H
                  have c17b0:((Int.tmod (rd t321 x11_1) a1)==a2)=false:=beq_eq_false_iff_ne.mpr c17;have c17b1:((Int.tmod (rd t321 x11_1) a1) !=a2)=true:=bne_iff_ne.mpr c17;have H':=qAm H;clear H;obtain⟨Ao21,co21,eo21⟩:=Kd.R_slice HO_9.1;subst eo21;have p327:0≤(x11_1:Int):=of_decide_eq_true qB56;have q327:x11_1<(t321.length:Int):=of_decide_eq_true qB56;obtain⟨ad327,e327,hx327_0⟩:=Kd.at_int (Kd.R_reads' HO_9.1).2.2 x11_1 p327 q327;cases e327
                  replace p327:=eq_true p327;replace q327:=eq_true q327;go_wp2
                  (first|go_roundg k1|((try simp only [add_plain] at *);go_roundg k1))
                  case measure=>have:=HK1.1;omega
                  case rel=>exact⟨(x10_1),(wrap64 (x11_1+1)),qB57,H',⟨by have:=HK1.1;omega⟩,⟨by (with_reducible repeat(first|apply Kd.R_alloc|apply Kd.R_drewN|apply Kd.R_drew));exact HO_9.1⟩,⟨by (with_reducible repeat(first|apply Kd.R_alloc|apply Kd.R_drewN|apply Kd.R_drew));exact HO_10.1⟩,⟨by repeat(first|(with_reducible first|exact HB.1|apply below_alloc|apply pw_below_drewN|apply below_drew1)|exact HB.1)⟩⟩
            · rw [if_neg c15] at H
              exact absurd H (by simp)
          · rw [if_neg c14] at H
            exact absurd H (by simp)
        · rw [if_neg c13] at H
          have c13b0:decide (x11_1<a0)=false:=decide_eq_false c13;clear c13;simp only [Option.some.injEq,Prod.mk.injEq] at H;obtain⟨rfl,rfl⟩:=H;go_wp2;go_ret2;exact⟨_,by first|rfl|(simp [errW_none,errW_some] <;> rfl)|(simp [*,errW_none,errW_some] <;> rfl),by (with_reducible repeat(first|apply Kd.R_alloc|apply Kd.R_drewN|apply Kd.R_drew));exact Kd.R_mono HO_10.1 (fun _ hk=>trivial),by repeat(first|(with_reducible first|exact HB.1|apply below_alloc|apply pw_below_drewN|apply below_drew1)|exact HB.1)⟩
  · rw [if_neg c5] at H
    have c5b0:(t320==0)=false:=beq_eq_false_iff_ne.mpr c5;have c5b1:(t320 !=0)=true:=bne_iff_ne.mpr c5;simp only [Option.some.injEq,Prod.mk.injEq] at H;obtain⟨rfl,rfl⟩:=H;go_enter Try.func42,Try.ntmps42;go_wp2_with (first|((with_reducible refine gate_dst (N:=15) rfl ?_);refine Kd.R_lit (Kd.int .i64) _ 2 ?hg (N:=15) ?hd (xs:=([a2]:List Int)) (inner:=[.int .i64 a2]) (ok:=fun _=>True) (okp:=fun _=>True) ?hr ?hp (fun _ hk=>hk) trivial (Below.refl _ _) (Nat.le_refl _) (by simp) ?_;(case hd=>rfl);(case hg=>rfl);(case hr=>first|(go_simp;done)|(go_simp;rfl));(case hp=>exact(Reps.one (show Kd.M (Kd.int .i64) _ _ _ a2 [.int .i64 a2] from rfl) (Reps.none _ _)));intro v318 w22 ho23 hb hg_ hnew_;clear hg_ hnew_;(first|rw [← Ny317.1] at ho23|(simp only [Int.reduceToNat] at ho23;rw [← Ny317.1] at ho23));have n0_:=qAm (Kd.R_lower ho23 (below_size qB23));have n1_:=qAm (below_step qB23 hb);clear HB;have HO319:=n0_;have HB:=n1_;clear n0_ n1_;clear hb ho23;obtain⟨Ao24,co24,eo24⟩:=Kd.R_slice HO319.1;subst eo24)|((with_reducible refine gate_callee (f:=79) rfl ?_);refine goesL_ (some 16) rfl rfl Try.func79 (by kernel_rfl) rfl #[.int .i64 a0,.int .i64 a1,.slice Ao24 y317.length co24] rfl qB19 ?_;(with_reducible refine(spec_l06Code.calls k a0 a1 _ _ y317 t320 _ ?side1 ?side2 A4.1).mono ?_);(case side1=>repeat(first|exact(Kd.R_reads' HO319.1).2.2|(with_reducible refine Kd.C_alloc ?_ _)|(with_reducible refine Kd.C_drewN ?_ _)|(with_reducible refine Kd.C_drew ?_)));(case side2=>exact(Kd.R_reads' HO319.1).2.1);rintro e w' ⟨rfl,⟨nd,rfl⟩⟩;refine⟨_,rfl,?_⟩));go_ret2;exact⟨_,by first|rfl|(simp [errW_none,errW_some] <;> rfl)|(simp [*,errW_none,errW_some] <;> rfl),by first|exact Kd.R_nil _ _ _ _ _|exact Kd.N_nil _ _ _ _ _|exact Kd.V_nil _ _ _ _ _|exact Kd.Q_nil _ _ _ _ _|exact Kd.S_nil _ _ _ _ _,by repeat(first|(with_reducible first|exact HB.1|apply below_alloc|apply pw_below_drewN|apply below_drew1)|exact HB.1)⟩

/-! ### spec_DrawCyclotomicNumber: function 44 -/
def spec_DrawCyclotomicNumber.f (k:Nat) (l0:List Int):Option (Int×Int×Int×Int):=(spec_l01From.f k l0).bind fun bt331=>((spec_l06Draw.f k bt331.1 bt331.2.1 bt331.2.2).bind fun bt335=>((spec_l01Next.f bt331.1 bt335.2.2.1 bt335.2.2.2 (mx bt335.2.1 1)).bind fun bt339=>((spec_l01Next.f bt331.1 bt339.2.1 bt339.2.2 16).bind fun bt342=>((spec_l01Next.f bt331.1 bt342.2.1 bt342.2.2 (wrap64 ((mx bt335.2.1 1)+(wrap64 (Int.tdiv bt342.1 15))))).bind fun bt345=>(some (bt335.1,bt335.2.1,bt339.1,bt345.1))))))
theorem spec_DrawCyclotomicNumber.mono:∀a0 k,LeO (spec_DrawCyclotomicNumber.f k a0) (spec_DrawCyclotomicNumber.f (k+1) a0):=by
  intro a0 k;unfold spec_DrawCyclotomicNumber.f;repeat' first
      |(with_reducible exact spec_l01From.mono _ _)
      |(with_reducible exact spec_l06Draw.mono _ _ _ _)
      |(with_reducible exact LeO.refl _)
      |(with_reducible exact LeO.none _)
      |(with_reducible refine LeO.ite ?_ ?_)
      |(with_reducible refine LeO.bind ?_ (fun _=>?_))
      |exact spec_l01From.mono _ _
      |exact spec_l06Draw.mono _ _ _ _
      |exact LeO.none _
      |refine LeO.ite ?_ ?_
      |refine LeO.bind ?_ (fun _=>?_)
set_option maxHeartbeats 8000000 in
set_option maxRecDepth 100000 in
theorem spec_DrawCyclotomicNumber.calls (k:Nat) (A0:Option Addr) (c0:Nat) (l0:List Int) (r1:Int) (r2:Int) (r3:Int) (r4:Int) (w:World) (hr0:Kd.C (Kd.int .u8) w A0 l0.length l0) (hc0:l0.length≤c0) (h:spec_DrawCyclotomicNumber.f k l0=some (r1,r2,r3,r4)):
    Calls Try.prog 44 #[.slice A0 l0.length c0] w fun e w'=>e=.returned (.tuple #[.int .i64 r1,.int .i64 r2,.int .i64 r3,.int .i64 r4])∧Below w.heap.size w w':=by
  have HR0:=qAm hr0;have HC0:=qAm hc0;clear hr0 hc0;have HB:=qAm (Below.refl w.heap.size w);have H:((spec_l01From.f k l0).bind fun bt331=>((spec_l06Draw.f k bt331.1 bt331.2.1 bt331.2.2).bind fun bt335=>((spec_l01Next.f bt331.1 bt335.2.2.1 bt335.2.2.2 (mx bt335.2.1 1)).bind fun bt339=>((spec_l01Next.f bt331.1 bt339.2.1 bt339.2.2 16).bind fun bt342=>((spec_l01Next.f bt331.1 bt342.2.1 bt342.2.2 (wrap64 ((mx bt335.2.1 1)+(wrap64 (Int.tdiv bt342.1 15))))).bind fun bt345=>(some (bt335.1,bt335.2.1,bt339.1,bt345.1)))))))=some (r1,r2,r3,r4):=h;clear h;replace H:=qOb H;obtain⟨⟨t331,t332,t333⟩,A20,H⟩:=H;replace H:((spec_l06Draw.f k t331 t332 t333).bind fun bt335=>((spec_l01Next.f t331 bt335.2.2.1 bt335.2.2.2 (mx bt335.2.1 1)).bind fun bt339=>((spec_l01Next.f t331 bt339.2.1 bt339.2.2 16).bind fun bt342=>((spec_l01Next.f t331 bt342.2.1 bt342.2.2 (wrap64 ((mx bt335.2.1 1)+(wrap64 (Int.tdiv bt342.1 15))))).bind fun bt345=>(some (bt335.1,bt335.2.1,bt339.1,bt345.1))))))=some (r1,r2,r3,r4):=H;have A2:=qAm A20;clear A20;replace H:=qOb H;obtain⟨⟨t335,t336,t337,t338⟩,A30,H⟩:=H;replace H:((spec_l01Next.f t331 t337 t338 (mx t336 1)).bind fun bt339=>((spec_l01Next.f t331 bt339.2.1 bt339.2.2 16).bind fun bt342=>((spec_l01Next.f t331 bt342.2.1 bt342.2.2 (wrap64 ((mx t336 1)+(wrap64 (Int.tdiv bt342.1 15))))).bind fun bt345=>(some (t335,t336,bt339.1,bt345.1)))))=some (r1,r2,r3,r4):=H;have A3:=qAm A30;clear A30;obtain⟨ji4,hji4⟩:∃j_:Int,(mx t336 1)=j_:=⟨_,rfl⟩
  replace H:((spec_l01Next.f t331 t337 t338 (ji4)).bind fun bt339=>((spec_l01Next.f t331 bt339.2.1 bt339.2.2 16).bind fun bt342=>((spec_l01Next.f t331 bt342.2.1 bt342.2.2 (wrap64 ((ji4)+(wrap64 (Int.tdiv bt342.1 15))))).bind fun bt345=>(some (t335,t336,bt339.1,bt345.1)))))=some (r1,r2,r3,r4):=by first|(rw [hji4] at H;exact H)|(simp only [hji4] at H ⊢;exact H)
  (try rw [hji4] at A2)
  (try rw [hji4] at A3)
  (try(have hji4l:1≤ji4:=by (rw [← hji4];unfold mx;(repeat' split) <;> omega)))
  (try(have hji4m:0≤ji4:=by omega))
  have hji4_:(if t336<1 then 1 else t336)=ji4:=hji4;replace H:=qOb H;obtain⟨⟨t339,t340,t341⟩,A50,H⟩:=H;replace H:((spec_l01Next.f t331 t340 t341 16).bind fun bt342=>((spec_l01Next.f t331 bt342.2.1 bt342.2.2 (wrap64 ((ji4)+(wrap64 (Int.tdiv bt342.1 15))))).bind fun bt345=>(some (t335,t336,t339,bt345.1))))=some (r1,r2,r3,r4):=H;have A5:=qAm A50;clear A50;replace H:=qOb H;obtain⟨⟨t342,t343,t344⟩,A70,H⟩:=H;replace H:((spec_l01Next.f t331 t343 t344 (wrap64 ((ji4)+(wrap64 (Int.tdiv t342 15))))).bind fun bt345=>(some (t335,t336,t339,bt345.1)))=some (r1,r2,r3,r4):=H;have A7:=qAm A70;clear A70;replace H:=qOb H;obtain⟨⟨t345,t346,t347⟩,A80,H⟩:=H;replace H:(some (t335,t336,t339,t345))=some (r1,r2,r3,r4):=H;have A8:=qAm A80;clear A80;simp only [Option.some.injEq,Prod.mk.injEq] at H;obtain⟨rfl,rfl,rfl,rfl⟩:=H;go_enter Try.func44,Try.ntmps44;go_wp2_with (first|((with_reducible refine gate_callee (f:=91) rfl ?_);refine goesL_ (some 10) rfl rfl Try.func91 (by kernel_rfl) rfl #[.slice A0 l0.length c0] rfl qB19 ?_;(with_reducible refine(spec_l01From.calls k _ _ l0 t331 t332 t333 w _ ?side1 ?side2 ?side3 A2.1).mono ?_);(case side1=>repeat(first|(with_reducible first|exact HB.1|apply below_alloc|apply pw_below_drewN|apply below_drew1)|exact HB.1));(case side2=>exact HR0.1);(case side3=>exact HC0.1);rintro e w9 ⟨g334,rfl,hi,hb,hb2⟩;refine⟨_,rfl,?_⟩;have n0_:=qAm (hb);have n1_:=qAm (hi);clear HB;have HB:=n0_;have HI334:=n1_;clear n0_ n1_;(try clear hb);(try clear hb2);(try clear hk);(try clear hi))|((with_reducible refine gate_callee (f:=90) rfl ?_);refine goesL_ (some 13) rfl rfl Try.func90 (by kernel_rfl) rfl #[.pointer (some ⟨g334,0,none⟩)] rfl qB19 ?_;(with_reducible refine(spec_l06Draw.calls k g334 t331 t332 t333 t335 t336 t337 t338 w _ ?side1 ?side2 A3.1).mono ?_);(case side1=>repeat(first|(with_reducible first|exact HI334.1|apply IsS126.alloc|apply IsS126.drewN|apply IsS126.drew|apply IsS126.set_1|apply IsS126.set_2)|exact HI334.1));(case side2=>repeat(first|(with_reducible first|exact HB.1|apply below_alloc|apply pw_below_drewN|apply below_drew1|refine below_set ?_ (IsS126.ge HI334.1))|exact HB.1));rintro e w10 ⟨rfl,hi,hb,hk⟩;refine⟨_,rfl,?_⟩;have n0_:=qAm (hb);have n1_:=qAm (hi);clear HB;clear HI334;have HB:=n0_;have HI334:=n1_;clear n0_ n1_;(try clear hb);(try clear hb2);(try clear hk);(try clear hi))|((with_reducible refine gate_callee (f:=94) rfl ?_);refine goesL_ (some 21) rfl rfl Try.func94 (by kernel_rfl) rfl #[.pointer (some ⟨g334,0,none⟩),.int .i64 ji4] rfl qB13 ?_;(with_reducible refine(spec_l01Next.calls g334 t331 t337 t338 ji4 t339 t340 t341 w _ ?side1 ?side2 A5.1).mono ?_);(case side1=>repeat(first|(with_reducible first|exact HI334.1|apply IsS126.alloc|apply IsS126.drewN|apply IsS126.drew|apply IsS126.set_1|apply IsS126.set_2)|exact HI334.1));(case side2=>repeat(first|(with_reducible first|exact HB.1|apply below_alloc|apply pw_below_drewN|apply below_drew1|refine below_set ?_ (IsS126.ge HI334.1))|exact HB.1));rintro e w11 ⟨rfl,hi,hb,hk⟩;refine⟨_,rfl,?_⟩;have n0_:=qAm (hb);have n1_:=qAm (hi);clear HB;clear HI334;have HB:=n0_;have HI334:=n1_;clear n0_ n1_;(try clear hb);(try clear hb2);(try clear hk);(try clear hi))|((with_reducible refine gate_callee (f:=94) rfl ?_);refine goesL_ (some 26) rfl rfl Try.func94 (by kernel_rfl) rfl #[.pointer (some ⟨g334,0,none⟩),.int .i64 16] rfl qB19 ?_;(with_reducible refine(spec_l01Next.calls g334 t331 t340 t341 16 t342 t343 t344 w _ ?side1 ?side2 A7.1).mono ?_);(case side1=>repeat(first|(with_reducible first|exact HI334.1|apply IsS126.alloc|apply IsS126.drewN|apply IsS126.drew|apply IsS126.set_1|apply IsS126.set_2)|exact HI334.1));(case side2=>repeat(first|(with_reducible first|exact HB.1|apply below_alloc|apply pw_below_drewN|apply below_drew1|refine below_set ?_ (IsS126.ge HI334.1))|exact HB.1));rintro e w12 ⟨rfl,hi,hb,hk⟩;refine⟨_,rfl,?_⟩;have n0_:=qAm (hb);have n1_:=qAm (hi);clear HB;clear HI334;have HB:=n0_;have HI334:=n1_;clear n0_ n1_;(try clear hb);(try clear hb2);(try clear hk);(try clear hi))|((with_reducible refine gate_callee (f:=94) rfl ?_);refine goesL_ (some 29) rfl rfl Try.func94 (by kernel_rfl) rfl #[.pointer (some ⟨g334,0,none⟩),.int .i64 (wrap64 ((ji4)+(wrap64 (Int.tdiv t342 15))))] rfl qB13 ?_;(with_reducible refine(spec_l01Next.calls g334 t331 t343 t344 (wrap64 ((ji4)+(wrap64 (Int.tdiv t342 15)))) t345 t346 t347 w _ ?side1 ?side2 A8.1).mono ?_);(case side1=>repeat(first|(with_reducible first|exact HI334.1|apply IsS126.alloc|apply IsS126.drewN|apply IsS126.drew|apply IsS126.set_1|apply IsS126.set_2)|exact HI334.1));(case side2=>repeat(first|(with_reducible first|exact HB.1|apply below_alloc|apply pw_below_drewN|apply below_drew1|refine below_set ?_ (IsS126.ge HI334.1))|exact HB.1));rintro e w13 ⟨rfl,hi,hb,hk⟩;refine⟨_,rfl,?_⟩;have n0_:=qAm (hb);have n1_:=qAm (hi);clear HB;clear HI334;have HB:=n0_;have HI334:=n1_;clear n0_ n1_;(try clear hb);(try clear hb2);(try clear hk);(try clear hi)));refine bodyPost_ret (results_list (rs:=[.tmp 2,.tmp 3,.tmp 4,.tmp 5]) rfl (by simp) (.tmp (.tmp (.tmp (.tmp .nil))))) rfl ?_;exact⟨by first|rfl|(simp [errW_none,errW_some] <;> rfl)|(simp only [← hji4];first|rfl|(simp [errW_none,errW_some] <;> rfl))|(simp [*,errW_none,errW_some] <;> rfl),by repeat(first|(with_reducible first|exact HB.1|apply below_alloc|apply pw_below_drewN|apply below_drew1|refine below_set ?_ (IsS126.ge HI334.1))|exact HB.1)⟩

/-! ### impl_ptable: function 165 -/
-- HAND
def impl_ptable.f (k:Nat) (a0:Int) (a1:Int) (a2:Int) (l3:List Int):Option ((List (List Int))):=(impl_periods_table.f k a0 a1 a2 l3).bind fun d=>some d.1
theorem impl_ptable.mono:∀a0 a1 a2 a3 k,LeO (impl_ptable.f k a0 a1 a2 a3) (impl_ptable.f (k+1) a0 a1 a2 a3):=by
  intro a0 a1 a2 a3 k;unfold impl_ptable.f;repeat' first
      |(with_reducible exact impl_periodsOf.mono _ _ _)
      |(with_reducible exact LeO.refl _)
      |(with_reducible exact LeO.none _)
      |(with_reducible refine LeO.ite ?_ ?_)
      |(with_reducible refine LeO.bind ?_ (fun _=>?_))
      |exact impl_periodsOf.mono _ _ _
      |apply impl_periods_table.mono
      |exact LeO.none _
      |refine LeO.ite ?_ ?_
      |refine LeO.bind ?_ (fun _=>?_)

end Go.Proofs.Ytefhabkikaadiaa.PFnPeriods
