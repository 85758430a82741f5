/- The functions that the law reaches, as plain functions, each with the proof that the program comes to it; no condition. Written by a program of this session (wip/mp.py) over the printing of the kit; what is marked HAND is told by hand. -/
import Derived.Test.YthljmbobccaalaaPFnExactIsUnitx0
import Derived.Test.YthljmbobccaalaaPFnExactIsUnitx1
import Derived.Test.YthljmbobccaalaaPFnExactIsUnitx9
import Derived.Test.YthljmbobccaalaaPFnExactIsUnitx10
import Derived.Test.YthljmbobccaalaaPFnExactIsUnitx11
import Derived.Test.YthljmbobccaalaaPFnExactIsUnitx12
import Derived.Test.YthljmbobccaalaaPFnExactIsUnitx13
import Derived.Test.YthljmbobccaalaaPFnExactIsUnitx14
namespace Go.Proofs.Ythljmbobccaalaa.PFnExactIsUnit
open Go.RowKit Go.Proofs.YthljmbobccaalaaW.PrintWords Go.Proofs.YthljmbobccaalaaW.PrintLast Go.Proofs.YthljmbobccaalaaW.PrintMore
attribute [local go_sem] max2_int min2_int max_two min_two max_three min_three max_four min_four   -- for this text's walks alone
set_option linter.unusedVariables false
set_option linter.unusedSimpArgs false

/-! ### impl_field_whole: function 48 -/
def impl_field_whole.f (s0_0:Int) (s0_1:Int) (s0_2:List (List Int)) (a1:Int):Option (List Int×Int×Int):=if 0≤s0_1 then (if (s0_1:Int).toNat≤35184372088832 then ((some (List.replicate (s0_1:Int).toNat 0:List Int)).bind fun y411=>(if 0<(y411.length:Int) then (some ((y411.set (0:Int).toNat a1),s0_0,s0_1)) else (none))) else (none)) else (none)
set_option maxHeartbeats 8000000 in
set_option maxRecDepth 100000 in
theorem impl_field_whole.calls (g:Nat) (s0_0:Int) (s0_1:Int) (s0_2:List (List Int)) (a1:Int) (r1:List Int) (r2:Int) (r3:Int) (w0 w:World) (hI:IsS52 w0 w g s0_0 s0_1 s0_2) (hB:Below w0.heap.size w0 w) (h:impl_field_whole.f s0_0 s0_1 s0_2 a1=some (r1,r2,r3)):
  Calls Try.prog 48 #[.pointer (some ⟨g,0,none⟩),.int .i64 a1] w fun e w'=>∃v0_:Value,e=.returned (v0_)∧Kd.R (Kd.int .i64) 2 w' w.heap.size (fun _=>True) v0_ r1∧IsS52 w0 w' g r2 r3 s0_2∧Below w0.heap.size w0 w'∧KeepBut w w' g none:=by
 have HI0:=qAm hI;have HK:=qAm (KeepBut.refl w g none);have HL:=qAm hB.size;clear hI;have HW0:=qAm hB.size;have HB:=qAm hB;clear hB;have H:(if 0≤s0_1 then (if (s0_1:Int).toNat≤35184372088832 then ((some (List.replicate (s0_1:Int).toNat 0:List Int)).bind fun y411=>(if 0<(y411.length:Int) then (some ((y411.set (0:Int).toNat a1),s0_0,s0_1)) else (none))) else (none)) else (none))=some (r1,r2,r3):=h;clear h
 by_cases c3:0≤s0_1
 ·rw [if_pos c3] at H;have c3b0:=eq_true c3;have c3b1:decide (0≤s0_1)=true:=decide_eq_true c3;clear c3
  by_cases c4:(s0_1:Int).toNat≤35184372088832
  ·rw [if_pos c4] at H;have c4b0:=eq_true c4;have c4b1:decide ((s0_1:Int).toNat≤35184372088832)=true:=decide_eq_true c4;clear c4;obtain⟨y411,hy411⟩:∃y_:List Int,y_=(List.replicate (s0_1:Int).toNat 0):=⟨_,rfl⟩
   replace H:(if 0<(y411.length:Int) then (some ((y411.set (0:Int).toNat a1),s0_0,s0_1)) else (none))=some (r1,r2,r3):=by first|(rw [hy411];with_reducible exact H)|(have H2_:=(Option.bind_some _ _).symm.trans H;rw [hy411];with_reducible exact H2_)|(have H2_:=(Option.bind_some _ _).symm.trans H;with_reducible exact H2_)|with_reducible exact H|(rw [hy411];exact H)|exact H
   have Ny411:=qAm hy411;clear hy411
   by_cases c5:0<(y411.length:Int)
   ·rw [if_pos c5] at H;have c5b0:decide (0<(y411.length:Int))=true:=decide_eq_true c5;have c5b1:decide (0<y411.length)=true:=decide_eq_true (by omega);clear c5;obtain⟨y414,hy414⟩:∃y_:List Int,y_=(y411.set (0:Int).toNat a1):=⟨_,rfl⟩
    replace H:(some (y414,s0_0,s0_1))=some (r1,r2,r3):=by first|(rw [hy414];with_reducible exact H)|(have H2_:=(Option.bind_some _ _).symm.trans H;rw [hy414];with_reducible exact H2_)|(have H2_:=(Option.bind_some _ _).symm.trans H;with_reducible exact H2_)|with_reducible exact H|(rw [hy414];exact H)|exact H
    have Ny414:=qAm hy414;clear hy414;simp only [Option.some.injEq,Prod.mk.injEq] at H;obtain⟨rfl,rfl,rfl⟩:=H;obtain⟨ASz7_2,cSz7_2,HGz7,hgz7,HSz7_2⟩:=HI0.1;have hcz7_0:=cellS52_0 HGz7;have hcz7_1:=cellS52_1 HGz7;have hcz7_2:=cellS52_2 HGz7;have hfz7_0:=blk_frozen HGz7 0;have hfz7_1:=blk_frozen HGz7 1;clear HGz7 hgz7;go_enter Try.func48,Try.ntmps48;go_wp2_with (first|((with_reducible refine gate_dst (N:=10) rfl ?_);refine Kd.R_make (Kd.int .i64) _ 2 rfl (N:=10) rfl 22 _ _ rfl s0_1 rfl rfl Try.underlying22 (.int .i64 0) 8 info2 rfl (by decide) (by omega) 0 (ok:=fun _=>True) (okp:=fun _=>True) rfl (fun _ hk=>hk) trivial (of_decide_eq_true qB126) (Nat.le_trans (Nat.mul_le_mul_right _ (of_decide_eq_true qB126:s0_1.toNat≤35184372088832)) (by omega)) (Below.refl _ _) (Nat.le_refl _) ?_;intro v412 w8 ho9 hb hg_ hnew_;clear hg_ hnew_;(first|rw [← Ny411.1] at ho9|(simp only [Int.reduceToNat] at ho9;rw [← Ny411.1] at ho9));have n0_:=qAm (Kd.R_lower ho9 (keep_size (w:=w) (g:=g) (row:=none) qB53));have n1_:=qAm (IsS52.below qB30 hb);have n2_:=qAm (KeepBut.trans qB53 (KeepBut.of_below hb g none) (.inl rfl));have n3_:=qAm (below_step qB29 hb);clear HI0;clear HK;clear HB;have HO413:=n0_;have HI0:=n1_;have HK:=n2_;have HB:=n3_;clear n0_ n1_ n2_ n3_;clear hb ho9;have p6:0≤(0:Int):=(by omega);have q6:(0:Int)<((y411.length:Int):Int):=of_decide_eq_true qB126;have qi6:(0<y411.length)=True:=eq_true (by omega);obtain⟨go6,co6,eo6,gb6,gl6,cl6,HG6⟩:=Kd.R_form HO413.1 (by omega);(first|cases eo6|(injection eo6 with ea_ en_ ec_;(first|subst ea_|(injection ea_ with ea_;subst ea_));subst ec_;clear en_));have GB6:=qAm gb6;have GG6:=qAm HG6;clear gb6 gl6 HG6;obtain⟨hx6_0,hf6_0⟩:=Kd.R_celln 0 HO413.1 (0:Int) p6 q6;(try rw [show((0:Int)).toNat=0 from rfl] at hx6_0);(try simp only [Nat.reduceMul,Nat.zero_mul,Nat.zero_add,Nat.reduceAdd] at hx6_0);(try rw [show((0:Int)).toNat=0 from rfl] at hf6_0);(try simp only [Nat.reduceMul,Nat.zero_mul,Nat.zero_add,Nat.reduceAdd] at hf6_0);replace p6:=eq_true p6;replace q6:=eq_true q6;obtain⟨hy10_,hz10_⟩:=Kd.R_celln 0 HO413.1 (0:Int) (by omega) (of_decide_eq_true qB126);(try simp only [Int.reduceToNat,Int.toNat_zero,Int.toNat_ofNat,Nat.reduceMul,Nat.zero_mul,Nat.zero_add] at hy10_ hz10_);(try rw [show((0:Int)).toNat=0 from rfl] at hy10_);(try rw [show((0:Int)).toNat=0 from rfl] at hz10_);have HP10:=Kd.R_putg HO413.1 (0:Int) a1)|((with_reducible refine gate_store (t:=2) (p:=13) rfl ?_);refine store_event (t:=2) (p:=13) (v:=?vo_w11) (w1:=(w8.setCell ⟨go6,(0:Int).toNat,none⟩ (.int .i64 a1))) ?hg ?ho ?hn ?hr ?_;(case ho=>rfl);(case hg=>rfl);(case hn=>rfl);(case hr=>first|(go_simp;done)|(go_simp;rfl));intro w11 hw;have hg:w8.grownBy w11 (some go6):=(by rw [hw];exact HP10.2);have hp_:Kd.R (Kd.int .i64) 2 w11 w.heap.size (fun _=>True) (.slice (some ⟨go6,0,none⟩) y411.length co6) y414:=(by rw [hw,Ny414.1];exact HP10.1);clear HP10;have n0_:=qAm (IsS52.grown qB30 hg (IsS52.own_ne HI0.1 HO413.1 (by decide)));have n1_:=qAm (hp_);have n2_:=qAm ((by rw [hw];exact below_set (HB.1) (Nat.le_trans HL.1 GB6.1):Below w0.heap.size w0 w11));have n3_:=qAm (KeepBut.trans qB53 (KeepBut.of_grown hg g) (Kd.R_base2 HO413.1));clear HI0;clear HO413;clear HB;clear HK;have HI0:=n0_;have HO413:=n1_;have HB:=n2_;have HK:=n3_;clear n0_ n1_ n2_ n3_;clear hg hw hp_));go_ret;exact⟨_,by first|rfl|(simp [errW_none,errW_some] <;> rfl)|(simp [*,errW_none,errW_some] <;> rfl),by (with_reducible repeat(first|apply Kd.R_alloc|apply Kd.R_drewN|apply Kd.R_drew));exact HO413.1,by repeat(first|(with_reducible first|exact HI0.1|apply IsS52.alloc|apply IsS52.drewN|apply IsS52.drew|apply IsS52.set_0|apply IsS52.set_1)|exact HI0.1),by repeat(first|(with_reducible first|exact HB.1|apply below_alloc|apply pw_below_drewN|apply below_drew1|refine below_set ?_ (IsS52.ge HI0.1))|exact HB.1),by repeat(first|(with_reducible first|exact HK.1|apply KeepBut.set_|apply keep_drewN|apply keep_drew|apply keep_alloc)|exact HK.1)⟩
   ·rw [if_neg c5] at H;exact absurd H (by simp)
  ·rw [if_neg c4] at H;exact absurd H (by simp)
 ·rw [if_neg c3] at H;exact absurd H (by simp)

/-! ### impl_field_all: function 78 -/
-- HAND
def hf_all (o P:Int) (pw:List (List Int)):List Int→List (List Int)→Option (List Int×Bool)
 |out,[]=>some (out,true)
 |out,x::l=>(impl_field_times.f o P pw out x).bind fun d=>if d.2.1=true then hf_all o P pw d.1 l else some ([],false)
def impl_field_all.f (s0_0:Int) (s0_1:Int) (s0_2:List (List Int)) (l1:List (List Int)):Option (List Int×Bool×Int×Int):=(impl_field_whole.f s0_0 s0_1 s0_2 1).bind fun d=>(hf_all s0_0 s0_1 s0_2 d.1 l1).map fun r=>(r.1,r.2,s0_0,s0_1)
set_option maxHeartbeats 8000000 in
set_option maxRecDepth 100000 in
theorem impl_field_all.calls (g:Nat) (s0_0:Int) (s0_1:Int) (s0_2:List (List Int)) (A1:Option Addr) (c1:Nat) (l1:List (List Int)) (r1:List Int) (r2:Bool) (r3:Int) (r4:Int) (w0 w:World) (hI:IsS52 w0 w g s0_0 s0_1 s0_2) (hB:Below w0.heap.size w0 w) (hr1:∀W_,KeepBut w W_ g none→Kd.C (Kd.slice 2 (Kd.int .i64)) W_ A1 l1.length l1) (hc1:l1.length≤c1) (h:impl_field_all.f s0_0 s0_1 s0_2 l1=some (r1,r2,r3,r4)):
  Calls Try.prog 78 #[.pointer (some ⟨g,0,none⟩),.slice A1 l1.length c1] w fun e w'=>∃v0_:Value,e=.returned (.tuple #[v0_,.bool r2])∧Kd.R (Kd.int .i64) 2 w' w.heap.size (fun _=>True) v0_ r1∧IsS52 w0 w' g r3 r4 s0_2∧Below w0.heap.size w0 w'∧KeepBut w w' g none:=by
 unfold impl_field_all.f at h;obtain⟨⟨e1,d2,d3⟩,hw,he⟩:=qOb h;obtain⟨⟨q,b⟩,hq,he⟩:=Option.map_eq_some_iff.mp he;simp only [Prod.mk.injEq] at he;obtain⟨rfl,rfl,rfl,rfl⟩:=he;obtain⟨rfl,rfl⟩:d2=s0_0∧d3=s0_1:=by
  unfold impl_field_whole.f at hw;have hz:∀{p:Prop} [Decidable p] {x:Option (List Int×Int×Int)},(if p then x else none)=some (e1,d2,d3)→x=some (e1,d2,d3):=fun hx=>by split at hx;(· exact hx);cases hx
  have hw:=hz (hz (hz hw));simp only [Option.some.injEq,Prod.mk.injEq] at hw;exact⟨hw.2.1.symm,hw.2.2.symm⟩
 have HI:=qAm hI;have HB:=qAm hB;have HR1:=qAm hr1;have HC1:=qAm hc1;have HW:=qAm hw;have HQ:=qAm hq;have hll:l1.length≤9223372036854775807:=(hr1 w (KeepBut.refl w g none)).2.1;clear hI hB hr1 hc1 hw hq h;go_enter Try.func78,Try.ntmps78;go_wp2_with (first|(go_at_call 48;refine(impl_field_whole.calls g d2 d3 s0_2 1 e1 d2 d3 w0 _ HI.1 HB.1 HW.1).mono ?_;rintro e w1 ⟨v1,rfl,ho,hi,hb,hk⟩;clear HI HB;have HO:=qAm ho;have HI:=qAm hi;have HB:=qAm hb;have HK:=qAm hk;clear ho hi hb hk));go_loopg [6,15] (l1.length+1) (fun kq v6 v15 w'=>∃(i:Nat) (out:List Int),v15=.int .i64 i∧Aside0 (kq+i=l1.length+1∧i≤l1.length)∧Aside0 (hf_all d2 d3 s0_2 out (l1.drop i)=some (q,b))∧Aside0 (Kd.R (Kd.int .i64) 2 w' w.heap.size (fun _=>True) v6 out)∧Aside0 (IsS52 w0 w' g d2 d3 s0_2)∧Aside0 (Below w0.heap.size w0 w')∧Aside0 (KeepBut w w' g none))
 case atStart=>exact⟨0,e1,rfl,⟨by omega,by omega⟩,⟨by simpa using HQ.1⟩,HO,HI,HB,HK⟩
 case round=>
  clear HQ HO HI HB HK HW;obtain⟨i,out,rfl,HA,HQ,HO,HI,HB,HK⟩:=hrel;obtain⟨Ao,co,eo⟩:=Kd.R_slice HO.1;subst eo
  by_cases hlt:i<l1.length
  ·have hQ:=HQ.1;rw [List.drop_eq_getElem_cons hlt] at hQ;obtain⟨⟨r,ok,e3,e4⟩,ht,hQ⟩:=qOb hQ;unfold impl_field_times.f at ht;obtain⟨S',hS',he⟩:=Option.map_eq_some_iff.mp ht;simp only [Prod.mk.injEq] at he;obtain⟨rfl,hok,rfl,rfl⟩:=he;obtain⟨ad,A0,c0,rfl,hx,hle,hC⟩:=at_L1 (HR1.1 wr HK.1) (i:Int) (by omega) (by omega);have er:rd_L1 l1 (i:Int)=l1[i]:=by simp [rd_L1,hlt]
   rw [er] at hx hle hC;have hx':wr.cell? (ad.add i)=some (.slice A0 l1[i].length c0):=by simpa using hx
   clear hx er
   by_cases hm:0≤d3∧d3≤1000000
   ·rw [if_pos hm] at hS';obtain⟨n,rfl⟩:∃n:Nat,d3=n:=⟨d3.toNat,by omega⟩
    rw [Int.toNat_natCast] at hS';have HS:=qAm hS';have HCx:=qAm hC;have HLx:=qAm hle;clear hS' hC hle ht;cases ok with
    |false=>
     have hQ':some (([]:List Int),false)=some (q,b):=by simpa using hQ
     simp only [Option.some.injEq,Prod.mk.injEq] at hQ';obtain⟨rfl,rfl⟩:=hQ';go_wp2_with (first|(go_at_call 41;refine(himg_times HI.1 (by omega) (Kd.R_reads' HO.1).2.2 HCx.1 HS.1 hok HB.1).mono ?_;rintro e w2 ⟨v2,rfl,ho,hb⟩;obtain⟨A2,c2,e2⟩:=Kd.R_slice ho;rw [List.length_map] at e2;subst e2;have HB2:=qAm hb;clear ho hb))
     first|go_ret2|go_ret
     exact⟨.slice none 0 0,rfl,Kd.R_nil _ _ _ _ _,IsS52.below HI.1 HB2.1,below_step HB.1 HB2.1,KeepBut.trans HK.1 (KeepBut.of_below HB2.1 g none) (.inl rfl)⟩
    |true=>
     have hQ':hf_all d2 (n:Int) s0_2 (S'.map (·.1)) (l1.drop (i+1))=some (q,b):=by simpa using hQ
     have HQ2:=qAm hQ';clear hQ hQ' HQ;go_wp2_with (first|(go_at_call 41;refine(himg_times HI.1 (by omega) (Kd.R_reads' HO.1).2.2 HCx.1 HS.1 hok HB.1).mono ?_;rintro e w2 ⟨v2,rfl,ho,hb⟩;obtain⟨A2,c2,e2⟩:=Kd.R_slice ho;rw [List.length_map] at e2;subst e2;have HO2:=qAm (Kd.R_lower ho (keep_size HK.1));have HB2:=qAm hb;clear ho hb));go_roundg (gk - 1)
     case measure=>have:=HA.1;omega
     case rel=>exact⟨i+1,S'.map (·.1),by go_num,⟨by have:=HA.1;omega,by omega⟩,HQ2,HO2,⟨IsS52.below HI.1 HB2.1⟩,⟨below_step HB.1 HB2.1⟩,⟨KeepBut.trans HK.1 (KeepBut.of_below HB2.1 g none) (.inl rfl)⟩⟩
   ·rw [if_neg hm] at hS';cases hS'
  ·have e:i=l1.length:=by have:=HA.1;omega
   subst e;have hQ:=HQ.1;rw [List.drop_length] at hQ;simp only [hf_all,Option.some.injEq,Prod.mk.injEq] at hQ;obtain⟨rfl,rfl⟩:=hQ;go_wp2
   first|go_ret2|go_ret
   exact⟨_,rfl,HO.1,HI.1,HB.1,HK.1⟩

/-! ### impl_field_norm: function 54 -/
def impl_field_norm.f (k:Nat) (s0_0:Int) (s0_1:Int) (s0_2:List (List Int)) (l1:List Int):Option (Int×Bool×Int×Int):=(impl_field_images.f k s0_0 s0_1 s0_2 l1).bind fun bt418=>((impl_field_all.f bt418.2.1 bt418.2.2 s0_2 bt418.1).bind fun bt423=>(if bt423.2.1=true then (if 0<(bt423.1.length:Int) then (some (rd bt423.1 0,true,bt423.2.2.1,bt423.2.2.2)) else (none)) else (some (0,false,bt423.2.2.1,bt423.2.2.2))))
theorem impl_field_norm.mono:∀a0 a1 a2 a3 k,LeO (impl_field_norm.f k a0 a1 a2 a3) (impl_field_norm.f (k+1) a0 a1 a2 a3):=by
 intro a0 a1 a2 a3 k;unfold impl_field_norm.f;repeat' first
   |(with_reducible exact impl_field_images.mono _ _ _ _ _)
   |(with_reducible exact LeO.refl _)
   |(with_reducible exact LeO.none _)
   |(with_reducible refine LeO.ite ?_ ?_)
   |(with_reducible refine LeO.bind ?_ (fun _=>?_))
   |exact impl_field_images.mono _ _ _ _ _
   |exact LeO.none _
   |refine LeO.ite ?_ ?_
   |refine LeO.bind ?_ (fun _=>?_)
set_option maxHeartbeats 8000000 in
set_option maxRecDepth 100000 in
theorem impl_field_norm.calls (k:Nat) (g:Nat) (s0_0:Int) (s0_1:Int) (s0_2:List (List Int)) (A1:Option Addr) (c1:Nat) (l1:List Int) (r1:Int) (r2:Bool) (r3:Int) (r4:Int) (w0 w:World) (hI:IsS52 w0 w g s0_0 s0_1 s0_2) (hB:Below w0.heap.size w0 w) (hr1:Kd.C (Kd.int .i64) w A1 l1.length l1) (hc1:l1.length≤c1) (hf1:∀ad,A1=some ad→0<l1.length→ad.block≠g) (h:impl_field_norm.f k s0_0 s0_1 s0_2 l1=some (r1,r2,r3,r4)):
  Calls Try.prog 54 #[.pointer (some ⟨g,0,none⟩),.slice A1 l1.length c1] w fun e w'=>e=.returned (.tuple #[.int .i64 r1,.bool r2])∧IsS52 w0 w' g r3 r4 s0_2∧Below w0.heap.size w0 w'∧KeepBut w w' g none:=by
 have HR1:=qAm hr1;have HC1:=qAm hc1;clear hr1 hc1;have HI0:=qAm hI;have HK:=qAm (KeepBut.refl w g none);have HL:=qAm hB.size;clear hI;have HW0:=qAm hB.size;have HB:=qAm hB;clear hB;have H:((impl_field_images.f k s0_0 s0_1 s0_2 l1).bind fun bt418=>((impl_field_all.f bt418.2.1 bt418.2.2 s0_2 bt418.1).bind fun bt423=>(if bt423.2.1=true then (if 0<(bt423.1.length:Int) then (some (rd bt423.1 0,true,bt423.2.2.1,bt423.2.2.2)) else (none)) else (some (0,false,bt423.2.2.1,bt423.2.2.2)))))=some (r1,r2,r3,r4):=h;clear h;replace H:=qOb H;obtain⟨⟨t418,t421,t422⟩,A30,H⟩:=H;replace H:((impl_field_all.f t421 t422 s0_2 t418).bind fun bt423=>(if bt423.2.1=true then (if 0<(bt423.1.length:Int) then (some (rd bt423.1 0,true,bt423.2.2.1,bt423.2.2.2)) else (none)) else (some (0,false,bt423.2.2.1,bt423.2.2.2))))=some (r1,r2,r3,r4):=H;have A3:=qAm A30;clear A30;replace H:=qOb H;obtain⟨⟨t423,t426,t427,t428⟩,A40,H⟩:=H;replace H:(if t426=true then (if 0<(t423.length:Int) then (some (rd t423 0,true,t427,t428)) else (none)) else (some (0,false,t427,t428)))=some (r1,r2,r3,r4):=H;have A4:=qAm A40;clear A40
 by_cases c5:t426=true
 ·subst c5;have H1:(if 0<(t423.length:Int) then (some (rd t423 0,true,t427,t428)) else (none))=some (r1,r2,r3,r4):=by rw [if_pos rfl] at H;exact H
  clear H;have H:=H1;clear H1
  by_cases c6:0<(t423.length:Int)
  ·rw [if_pos c6] at H;have c6b0:decide (0<(t423.length:Int))=true:=decide_eq_true c6;have c6b1:decide (0<t423.length)=true:=decide_eq_true (by omega);clear c6;simp only [Option.some.injEq,Prod.mk.injEq] at H;obtain⟨rfl,rfl,rfl,rfl⟩:=H;go_enter Try.func54,Try.ntmps54;go_wp2_with (first|((with_reducible refine gate_callee (f:=77) rfl ?_);refine goesL_ (some 12) rfl rfl Try.func77 (by kernel_rfl) rfl #[.pointer (some ⟨g,0,none⟩),.slice A1 l1.length c1] rfl qB60 ?_;(with_reducible refine(impl_field_images.calls k g s0_0 s0_1 s0_2 _ _ l1 t418 t421 t422 w0 _ ?side1 ?side2 ?side3 ?side4 ?side5 A3.1).mono ?_);(case side1=>repeat(first|(with_reducible first|exact HI0.1|apply IsS52.alloc|apply IsS52.drewN|apply IsS52.drew|apply IsS52.set_0|apply IsS52.set_1)|exact HI0.1));(case side2=>repeat(first|(with_reducible first|exact HB.1|apply below_alloc|apply pw_below_drewN|apply below_drew1|refine below_set ?_ (IsS52.ge HI0.1))|exact HB.1));(case side3=>exact Kd.C_keep 0 HR1.1 qB53 hf1);(case side4=>exact HC1.1);(case side5=>exact hf1);rintro e w7 ⟨v419,rfl,ho0,hi,hb,hk⟩;refine⟨_,rfl,?_⟩;have n0_:=qAm (Kd.S_lower ho0 (keep_size (w:=w) (g:=g) (row:=none) qB53));have n1_:=qAm (KeepBut.trans qB53 hk (.inl rfl));have n2_:=qAm (hb);have n3_:=qAm (hi);clear HK;clear HB;clear HI0;have HO420:=n0_;have HK:=n1_;have HB:=n2_;have HI0:=n3_;clear n0_ n1_ n2_ n3_;(try clear hb);(try clear hb2);(try clear hk);(try clear hi);(try clear ho0);obtain⟨Ao8,co8,eo8⟩:=Kd.S_slice HO420.1;subst eo8)|((with_reducible refine gate_callee (f:=78) rfl ?_);refine goesL_ (some 13) rfl rfl Try.func78 (by kernel_rfl) rfl #[.pointer (some ⟨g,0,none⟩),.slice Ao8 t418.length co8] rfl qB60 ?_;(with_reducible refine(impl_field_all.calls g t421 t422 s0_2 _ _ t418 t423 true t427 t428 w0 _ ?side1 ?side2 ?side3 ?side4 A4.1).mono ?_);(case side1=>repeat(first|(with_reducible first|exact HI0.1|apply IsS52.alloc|apply IsS52.drewN|apply IsS52.drew|apply IsS52.set_0|apply IsS52.set_1)|exact HI0.1));(case side2=>repeat(first|(with_reducible first|exact HB.1|apply below_alloc|apply pw_below_drewN|apply below_drew1|refine below_set ?_ (IsS52.ge HI0.1))|exact HB.1));(case side3=>exact Kd.C_foot_own ((Kd.S_R (IsS52.apartS (show IsS52 w0 _ g t421 t422 s0_2 from by repeat(first|(with_reducible first|exact HI0.1|apply IsS52.alloc|apply IsS52.drewN|apply IsS52.drew|apply IsS52.set_0|apply IsS52.set_1)|exact HI0.1)) qB114 (by decide)))) (fun _ h_=>h_.2));(case side4=>exact(Kd.S_reads' HO420.1).2.1);rintro e w9 ⟨v424,rfl,ho0,hi,hb,hk⟩;refine⟨_,rfl,?_⟩;have n0_:=qAm (Kd.S_mono (Kd.S_told (Kd.S_oldK (IsS52.apartS (show IsS52 w0 _ g t421 t422 s0_2 from by repeat(first|(with_reducible first|exact HI0.1|apply IsS52.alloc|apply IsS52.drewN|apply IsS52.drew|apply IsS52.set_0|apply IsS52.set_1)|exact HI0.1)) qB114 (by decide)) hk) (Kd.R_base ho0)) (fun _ h_=>h_.1));have n1_:=qAm (Kd.R_lower ho0 (keep_size (w:=w) (g:=g) (row:=none) qB53));have n2_:=qAm (KeepBut.trans qB53 hk (.inl rfl));have n3_:=qAm (hb);have n4_:=qAm (hi);clear HO420;clear HK;clear HB;clear HI0;have HO420:=n0_;have HO425:=n1_;have HK:=n2_;have HB:=n3_;have HI0:=n4_;clear n0_ n1_ n2_ n3_ n4_;(try clear hb);(try clear hb2);(try clear hk);(try clear hi);(try clear ho0);obtain⟨Ao10,co10,eo10⟩:=Kd.R_slice HO425.1;subst eo10;have p429:0≤(0:Int):=(by omega);have q429:0<(t423.length:Int):=of_decide_eq_true qB126;obtain⟨ad429,e429,hx429_0⟩:=Kd.at_int (Kd.R_reads' HO425.1).2.2 0 p429 q429;cases e429;have qi429:(0<t423.length)=True:=eq_true (by omega);(try rw [show((0:Int)).toNat=0 from rfl] at hx429_0);(try rw [Addr.add_zero'] at hx429_0);replace p429:=eq_true p429;replace q429:=eq_true q429));go_ret2;exact⟨by first|rfl|(simp [errW_none,errW_some] <;> rfl)|(simp [*,errW_none,errW_some] <;> rfl),by repeat(first|(with_reducible first|exact HI0.1|apply IsS52.alloc|apply IsS52.drewN|apply IsS52.drew|apply IsS52.set_0|apply IsS52.set_1)|exact HI0.1),by repeat(first|(with_reducible first|exact HB.1|apply below_alloc|apply pw_below_drewN|apply below_drew1|refine below_set ?_ (IsS52.ge HI0.1))|exact HB.1),by repeat(first|(with_reducible first|exact HK.1|apply KeepBut.set_|apply keep_drewN|apply keep_drew|apply keep_alloc)|exact HK.1)⟩
  ·rw [if_neg c6] at H;exact absurd H (by simp)
 ·replace c5:=Bool.eq_false_iff.mpr c5;subst c5;have H1:(some (0,false,t427,t428))=some (r1,r2,r3,r4):=by rw [if_neg (show ¬(false=true) by decide)] at H;exact H
  clear H;have H:=H1;clear H1;simp only [Option.some.injEq,Prod.mk.injEq] at H;obtain⟨rfl,rfl,rfl,rfl⟩:=H;go_enter Try.func54,Try.ntmps54;go_wp2_with (first|((with_reducible refine gate_callee (f:=77) rfl ?_);refine goesL_ (some 12) rfl rfl Try.func77 (by kernel_rfl) rfl #[.pointer (some ⟨g,0,none⟩),.slice A1 l1.length c1] rfl qB60 ?_;(with_reducible refine(impl_field_images.calls k g s0_0 s0_1 s0_2 _ _ l1 t418 t421 t422 w0 _ ?side1 ?side2 ?side3 ?side4 ?side5 A3.1).mono ?_);(case side1=>repeat(first|(with_reducible first|exact HI0.1|apply IsS52.alloc|apply IsS52.drewN|apply IsS52.drew|apply IsS52.set_0|apply IsS52.set_1)|exact HI0.1));(case side2=>repeat(first|(with_reducible first|exact HB.1|apply below_alloc|apply pw_below_drewN|apply below_drew1|refine below_set ?_ (IsS52.ge HI0.1))|exact HB.1));(case side3=>exact Kd.C_keep 0 HR1.1 qB53 hf1);(case side4=>exact HC1.1);(case side5=>exact hf1);rintro e w11 ⟨v419,rfl,ho0,hi,hb,hk⟩;refine⟨_,rfl,?_⟩;have n0_:=qAm (Kd.S_lower ho0 (keep_size (w:=w) (g:=g) (row:=none) qB53));have n1_:=qAm (KeepBut.trans qB53 hk (.inl rfl));have n2_:=qAm (hb);have n3_:=qAm (hi);clear HK;clear HB;clear HI0;have HO420:=n0_;have HK:=n1_;have HB:=n2_;have HI0:=n3_;clear n0_ n1_ n2_ n3_;(try clear hb);(try clear hb2);(try clear hk);(try clear hi);(try clear ho0);obtain⟨Ao12,co12,eo12⟩:=Kd.S_slice HO420.1;subst eo12)|((with_reducible refine gate_callee (f:=78) rfl ?_);refine goesL_ (some 13) rfl rfl Try.func78 (by kernel_rfl) rfl #[.pointer (some ⟨g,0,none⟩),.slice Ao12 t418.length co12] rfl qB60 ?_;(with_reducible refine(impl_field_all.calls g t421 t422 s0_2 _ _ t418 t423 false t427 t428 w0 _ ?side1 ?side2 ?side3 ?side4 A4.1).mono ?_);(case side1=>repeat(first|(with_reducible first|exact HI0.1|apply IsS52.alloc|apply IsS52.drewN|apply IsS52.drew|apply IsS52.set_0|apply IsS52.set_1)|exact HI0.1));(case side2=>repeat(first|(with_reducible first|exact HB.1|apply below_alloc|apply pw_below_drewN|apply below_drew1|refine below_set ?_ (IsS52.ge HI0.1))|exact HB.1));(case side3=>exact Kd.C_foot_own ((Kd.S_R (IsS52.apartS (show IsS52 w0 _ g t421 t422 s0_2 from by repeat(first|(with_reducible first|exact HI0.1|apply IsS52.alloc|apply IsS52.drewN|apply IsS52.drew|apply IsS52.set_0|apply IsS52.set_1)|exact HI0.1)) qB114 (by decide)))) (fun _ h_=>h_.2));(case side4=>exact(Kd.S_reads' HO420.1).2.1);rintro e w13 ⟨v424,rfl,ho0,hi,hb,hk⟩;refine⟨_,rfl,?_⟩;have n0_:=qAm (Kd.S_mono (Kd.S_told (Kd.S_oldK (IsS52.apartS (show IsS52 w0 _ g t421 t422 s0_2 from by repeat(first|(with_reducible first|exact HI0.1|apply IsS52.alloc|apply IsS52.drewN|apply IsS52.drew|apply IsS52.set_0|apply IsS52.set_1)|exact HI0.1)) qB114 (by decide)) hk) (Kd.R_base ho0)) (fun _ h_=>h_.1));have n1_:=qAm (Kd.R_lower ho0 (keep_size (w:=w) (g:=g) (row:=none) qB53));have n2_:=qAm (KeepBut.trans qB53 hk (.inl rfl));have n3_:=qAm (hb);have n4_:=qAm (hi);clear HO420;clear HK;clear HB;clear HI0;have HO420:=n0_;have HO425:=n1_;have HK:=n2_;have HB:=n3_;have HI0:=n4_;clear n0_ n1_ n2_ n3_ n4_;(try clear hb);(try clear hb2);(try clear hk);(try clear hi);(try clear ho0)));go_ret2;exact⟨by first|rfl|(simp [errW_none,errW_some] <;> rfl)|(simp [*,errW_none,errW_some] <;> rfl),by repeat(first|(with_reducible first|exact HI0.1|apply IsS52.alloc|apply IsS52.drewN|apply IsS52.drew|apply IsS52.set_0|apply IsS52.set_1)|exact HI0.1),by repeat(first|(with_reducible first|exact HB.1|apply below_alloc|apply pw_below_drewN|apply below_drew1|refine below_set ?_ (IsS52.ge HI0.1))|exact HB.1),by repeat(first|(with_reducible first|exact HK.1|apply KeepBut.set_|apply keep_drewN|apply keep_drew|apply keep_alloc)|exact HK.1)⟩

/-! ### impl_NormOf: function 23 -/
def impl_NormOf.f (k:Nat) (a0_0:Int) (l0_1:List Int):Option (Int×Int):=(impl_IsCyclo.f k a0_0 l0_1).bind fun t=>if t=true then ((impl_fieldOf.f k a0_0).bind fun b=>(impl_field_norm.f k b.1 b.2.1 b.2.2 l0_1).bind fun d=>if d.2.1=true then some (d.1,0) else some (0,3)) else some (0,1)
theorem impl_NormOf.mono:∀a0 a1 k,LeO (impl_NormOf.f k a0 a1) (impl_NormOf.f (k+1) a0 a1):=by
 intro a0 a1 k;unfold impl_NormOf.f;repeat' first
   |(with_reducible exact impl_IsCyclo.mono _ _ _)
   |(with_reducible exact LeO.refl _)
   |(with_reducible exact LeO.none _)
   |(with_reducible refine LeO.ite ?_ ?_)
   |(with_reducible refine LeO.bind ?_ (fun _=>?_))
   |exact impl_IsCyclo.mono _ _ _
   |apply impl_fieldOf.mono
   |apply impl_field_norm.mono
   |exact LeO.none _
   |refine LeO.ite ?_ ?_
   |refine LeO.bind ?_ (fun _=>?_)
-- HAND
set_option maxHeartbeats 8000000 in
set_option maxRecDepth 100000 in
theorem impl_NormOf.calls (k:Nat) (a0_0:Int) (A0_1:Option Addr) (c0_1:Nat) (l0_1:List Int) (r1:Int) (r2:Int) (w:World) (hr0_1:Kd.C (Kd.int .i64) w A0_1 l0_1.length l0_1) (hc0_1:l0_1.length≤c0_1) (h:impl_NormOf.f k a0_0 l0_1=some (r1,r2)):
  Calls Try.prog 23 #[.agg #[.int .i64 a0_0,.slice A0_1 l0_1.length c0_1]] w fun e w'=>e=.returned (.tuple #[.int .i64 r1,.int .i64 r2])∧Below w.heap.size w w':=by
 have HR0:=qAm hr0_1;have HC0:=qAm hc0_1;have HB:=qAm (Below.refl w.heap.size w);clear hr0_1 hc0_1;unfold impl_NormOf.f at h;obtain⟨t,A1,H⟩:=qOb h;replace A1:=qAm A1;clear h;cases t with
 |false=>
  simp only [Bool.false_eq_true,if_false,Option.some.injEq,Prod.mk.injEq] at H;obtain⟨rfl,rfl⟩:=H;go_enter Try.func23,Try.ntmps23;go_wp2_with (first|((with_reducible refine gate_dst (N:=1) rfl ?_);refine box_event ?hg (N:=1) ?hd (cs:=#[.int .i64 a0_0,.slice A0_1 l0_1.length c0_1]) (t:=26) ?hr ?_;(case hd=>rfl);(case hg=>rfl);(case hr=>first|(go_simp;done)|(go_simp;rfl));intro gx0 hg wx0 hbox hb;have GX0:=qAm (by rw [hg];exact below_size HB.1:w.heap.size≤gx0);have mB_:=qAm (below_step HB.1 hb);clear HB;have HB:=mB_;clear mB_;have BX0:=qAm hbox;clear hb hbox hg;have cxwx00_0:wx0.cell? ⟨gx0,0,none⟩=some (.int .i64 a0_0):=(blk_cell BX0.1 0).trans rfl;have cxwx00_1:wx0.cell? ⟨gx0,1,none⟩=some (.slice A0_1 l0_1.length c0_1):=(blk_cell BX0.1 1).trans rfl;have fxwx00_0:=blk_frozen BX0.1 0;have fxwx00_1:=blk_frozen BX0.1 1)|(go_at_call 46;refine(impl_IsCyclo.calls k a0_0 _ _ l0_1 _ _ (Kd.C_below HR0.1 HB.1) HC0.1 A1.1).mono ?_;rintro e w2 ⟨rfl,hb⟩;have m0_:=qAm (blk_below (g:=gx0) (o:=.cells #[.int .i64 a0_0,.slice A0_1 l0_1.length c0_1] 26 (0,0)) BX0.1 hb);have mB_:=qAm (below_step HB.1 hb);clear BX0 HB;have BX0:=m0_;have HB:=mB_;clear m0_ mB_;clear hb;have cxw20_0:w2.cell? ⟨gx0,0,none⟩=some (.int .i64 a0_0):=(blk_cell BX0.1 0).trans rfl;have cxw20_1:w2.cell? ⟨gx0,1,none⟩=some (.slice A0_1 l0_1.length c0_1):=(blk_cell BX0.1 1).trans rfl;have fxw20_0:=blk_frozen BX0.1 0;have fxw20_1:=blk_frozen BX0.1 1))
  first|go_ret2|go_ret
  exact⟨rfl,HB.1⟩
 |true=>
  simp only [if_true] at H;obtain⟨⟨o,n,pw⟩,A2,H⟩:=qOb H;obtain⟨⟨q,b,d3,d4⟩,A3,H⟩:=qOb H;replace A2:=qAm A2;replace A3:=qAm A3;cases b
  all_goals
   simp only [Bool.false_eq_true,if_false,if_true,Option.some.injEq,Prod.mk.injEq] at H;obtain⟨rfl,rfl⟩:=H;go_enter Try.func23,Try.ntmps23;go_wp2_with (first|((with_reducible refine gate_dst (N:=1) rfl ?_);refine box_event ?hg (N:=1) ?hd (cs:=#[.int .i64 a0_0,.slice A0_1 l0_1.length c0_1]) (t:=26) ?hr ?_;(case hd=>rfl);(case hg=>rfl);(case hr=>first|(go_simp;done)|(go_simp;rfl));intro gx0 hg wx0 hbox hb;have GX0:=qAm (by rw [hg];exact below_size HB.1:w.heap.size≤gx0);have mB_:=qAm (below_step HB.1 hb);clear HB;have HB:=mB_;clear mB_;have BX0:=qAm hbox;clear hb hbox hg;have cxwx00_0:wx0.cell? ⟨gx0,0,none⟩=some (.int .i64 a0_0):=(blk_cell BX0.1 0).trans rfl;have cxwx00_1:wx0.cell? ⟨gx0,1,none⟩=some (.slice A0_1 l0_1.length c0_1):=(blk_cell BX0.1 1).trans rfl;have fxwx00_0:=blk_frozen BX0.1 0;have fxwx00_1:=blk_frozen BX0.1 1)|(go_at_call 46;refine(impl_IsCyclo.calls k a0_0 _ _ l0_1 _ _ (Kd.C_below HR0.1 HB.1) HC0.1 A1.1).mono ?_;rintro e w2 ⟨rfl,hb⟩;have m0_:=qAm (blk_below (g:=gx0) (o:=.cells #[.int .i64 a0_0,.slice A0_1 l0_1.length c0_1] 26 (0,0)) BX0.1 hb);have mB_:=qAm (below_step HB.1 hb);clear BX0 HB;have BX0:=m0_;have HB:=mB_;clear m0_ mB_;clear hb;have cxw20_0:w2.cell? ⟨gx0,0,none⟩=some (.int .i64 a0_0):=(blk_cell BX0.1 0).trans rfl;have cxw20_1:w2.cell? ⟨gx0,1,none⟩=some (.slice A0_1 l0_1.length c0_1):=(blk_cell BX0.1 1).trans rfl;have fxw20_0:=blk_frozen BX0.1 0;have fxw20_1:=blk_frozen BX0.1 1)|(go_at_call 40;refine(impl_fieldOf.calls k a0_0 o n pw _ A2.1).mono ?_;rintro e w3 ⟨v3,rfl,ho3,hb⟩;have m0_:=qAm (blk_below (g:=gx0) (o:=.cells #[.int .i64 a0_0,.slice A0_1 l0_1.length c0_1] 26 (0,0)) BX0.1 hb);have mB_:=qAm (below_step HB.1 hb);clear BX0 HB;have BX0:=m0_;have HB:=mB_;clear m0_ mB_;obtain⟨Ap,cp,rfl⟩:=Kd.N_slice ho3;have HP:=qAm (Kd.N_reads' ho3).2.2;have HBp:=HB;clear hb ho3)|((with_reducible refine gate_dst (N:=4) rfl ?_);refine box_event ?hg (N:=4) ?hd (cs:=#[.int .i64 0,.int .i64 0,.slice none 0 0]) (t:=52) ?hr ?_;(case hd=>rfl);(case hg=>rfl);(case hr=>first|(go_simp;done)|(go_simp;rfl));intro gf hg w4 hbox hb;have GE:=qAm (by rw [hg];exact Nat.le_refl _:w3.heap.size≤gf);have GF:=qAm (by rw [hg];exact below_size HB.1:w.heap.size≤gf);have NF0:=qAm (by rw [hg];exact Nat.ne_of_lt (blk_lt (g:=gx0) (o:=.cells #[.int .i64 a0_0,.slice A0_1 l0_1.length c0_1] 26 (0,0)) BX0.1):gx0≠gf);have m0_:=qAm (blk_below (g:=gx0) (o:=.cells #[.int .i64 a0_0,.slice A0_1 l0_1.length c0_1] 26 (0,0)) BX0.1 hb);have mB_:=qAm (below_step HB.1 hb);clear BX0 HB;have BX0:=m0_;have HB:=mB_;clear m0_ mB_;have BF:=qAm hbox;have BW:=qAm hb;clear hb hbox hg;have cxw40_0:w4.cell? ⟨gx0,0,none⟩=some (.int .i64 a0_0):=(blk_cell BX0.1 0).trans rfl;have cxw40_1:w4.cell? ⟨gx0,1,none⟩=some (.slice A0_1 l0_1.length c0_1):=(blk_cell BX0.1 1).trans rfl;have fxw40_0:=blk_frozen BX0.1 0;have fxw40_1:=blk_frozen BX0.1 1;have nf0:=NF0.1;have nfs0:=NF0.1.symm;have cf0:w4.cell? ⟨gf,0,none⟩=some (.int .i64 0):=(blk_cell BF.1 0).trans rfl;have cf1:w4.cell? ⟨gf,1,none⟩=some (.int .i64 0):=(blk_cell BF.1 1).trans rfl;have cf2:w4.cell? ⟨gf,2,none⟩=some (.slice none 0 0):=(blk_cell BF.1 2).trans rfl;have ff0:=blk_frozen BF.1 0;have ff1:=blk_frozen BF.1 1;have ff2:=blk_frozen BF.1 2)|(go_at_call 54;refine(impl_field_norm.calls k gf o n pw A0_1 c0_1 l0_1 _ _ _ _ w3 _ ⟨Ap,cp,blk_put (cs:=#[.int .i64 o,.int .i64 n,.slice none 0 0]) (blk_put (cs:=#[.int .i64 o,.int .i64 0,.slice none 0 0]) (blk_put (cs:=#[.int .i64 0,.int .i64 0,.slice none 0 0]) BF.1 0 (.int .i64 o) rfl) 1 (.int .i64 n) rfl) 2 (.slice Ap pw.length cp) rfl,GE.1,HP.1⟩ (below_set (below_set (below_set BW.1 GE.1) GE.1) GE.1) (Kd.C_below HR0.1 (below_set (below_set (below_set HB.1 GF.1) GF.1) GF.1)) HC0.1 (Kd.far_C (0:Int) HR0.1 GF.1) A3.1).mono ?_;rintro e w5 ⟨rfl,hi5,hb5,hk5⟩;have HE:=qAm (below_step HBp.1 hb5);clear hi5 hb5 hk5))
   first|go_ret2|go_ret
   exact⟨rfl,HE.1⟩

/-! ### impl_IsUnit: function 25 -/
def impl_IsUnit.f (k:Nat) (a0_0:Int) (l0_1:List Int):Option (Bool×Int):=(impl_NormOf.f k a0_0 l0_1).bind fun bt432=>((impl_size.f bt432.1).bind fun t434=>(some ((t434==1),bt432.2)))
theorem impl_IsUnit.mono:∀a0 a1 k,LeO (impl_IsUnit.f k a0 a1) (impl_IsUnit.f (k+1) a0 a1):=by
 intro a0 a1 k;unfold impl_IsUnit.f;repeat' first
   |(with_reducible exact impl_NormOf.mono _ _ _)
   |(with_reducible exact LeO.refl _)
   |(with_reducible exact LeO.none _)
   |(with_reducible refine LeO.ite ?_ ?_)
   |(with_reducible refine LeO.bind ?_ (fun _=>?_))
   |exact impl_NormOf.mono _ _ _
   |exact LeO.none _
   |refine LeO.ite ?_ ?_
   |refine LeO.bind ?_ (fun _=>?_)
set_option maxHeartbeats 8000000 in
set_option maxRecDepth 100000 in
theorem impl_IsUnit.calls (k:Nat) (a0_0:Int) (A0_1:Option Addr) (c0_1:Nat) (l0_1:List Int) (r1:Bool) (r2:Int) (w:World) (hr0_1:Kd.C (Kd.int .i64) w A0_1 l0_1.length l0_1) (hc0_1:l0_1.length≤c0_1) (h:impl_IsUnit.f k a0_0 l0_1=some (r1,r2)):
  Calls Try.prog 25 #[.agg #[.int .i64 a0_0,.slice A0_1 l0_1.length c0_1]] w fun e w'=>e=.returned (.tuple #[.bool r1,.int .i64 r2])∧Below w.heap.size w w':=by
 have hu26:=Try.underlying26;have HR0_1:=qAm hr0_1;have HC0_1:=qAm hc0_1;clear hr0_1 hc0_1;have HB:=qAm (Below.refl w.heap.size w);have H:((impl_NormOf.f k a0_0 l0_1).bind fun bt432=>((impl_size.f bt432.1).bind fun t434=>(some ((t434==1),bt432.2))))=some (r1,r2):=h;clear h;replace H:=qOb H;obtain⟨⟨t432,t433⟩,A20,H⟩:=H;replace H:((impl_size.f t432).bind fun t434=>(some ((t434==1),t433)))=some (r1,r2):=H;have A2:=qAm A20;clear A20;replace H:=qOb H;obtain⟨t434,A30,H⟩:=H;replace H:(some ((t434==1),t433))=some (r1,r2):=H;have A3:=qAm A30;clear A30;simp only [Option.some.injEq,Prod.mk.injEq] at H;obtain⟨rfl,rfl⟩:=H;go_enter Try.func25,Try.ntmps25;go_wp2_with (first|((with_reducible refine gate_dst (N:=1) rfl ?_);refine box_event ?hg (N:=1) ?hd (cs:=#[.int .i64 a0_0,.slice A0_1 l0_1.length c0_1]) (t:=26) ?hr ?_;(case hd=>rfl);(case hg=>rfl);(case hr=>first|(go_simp;done)|(go_simp;rfl));intro gb431 hg w4 hbox hb;have n0_:=qAm (below_step qB62 hb);have n1_:=qAm (hbox);have n2_:=qAm ((by rw [hg];exact(below_size qB62):w.heap.size≤gb431));have n3_:=qAm ((by rw [hg];exact(below_size qB62):w.heap.size≤gb431));clear HB;have HB:=n0_;have BK431:=n1_;have GW431:=n2_;have GE431:=n3_;clear n0_ n1_ n2_ n3_;clear hb hbox hg;have hcz5_0:w4.cell? ⟨gb431,0,none⟩=some (.int .i64 a0_0):=(blk_cell BK431.1 0).trans rfl;have hcz5_1:w4.cell? ⟨gb431,1,none⟩=some (.slice A0_1 l0_1.length c0_1):=(blk_cell BK431.1 1).trans rfl;have hfz5_0:=blk_frozen BK431.1 0;have hfz5_1:=blk_frozen BK431.1 1)|((with_reducible refine gate_callee (f:=23) rfl ?_);refine goesL_ (some 8) rfl rfl Try.func23 (by kernel_rfl) rfl #[.agg #[.int .i64 a0_0,.slice A0_1 l0_1.length c0_1]] rfl qB60 ?_;(with_reducible refine(impl_NormOf.calls k a0_0 _ _ l0_1 t432 t433 _ ?side1 ?side2 A2.1).mono ?_);(case side1=>repeat(first|exact(Kd.C_below HR0_1.1 HB.1)|(with_reducible refine Kd.C_alloc ?_ _)|(with_reducible refine Kd.C_drewN ?_ _)|(with_reducible refine Kd.C_drew ?_)));(case side2=>exact HC0_1.1);rintro e w6 ⟨rfl,hb⟩;refine⟨_,rfl,?_⟩;have n0_:=qAm (blk_below (g:=gb431) (o:=.cells #[.int .i64 a0_0,.slice A0_1 l0_1.length c0_1] 26 (0,0)) qB89 hb);have n1_:=qAm (below_step qB47 hb);clear BK431;clear HB;have BK431:=n0_;have HB:=n1_;clear n0_ n1_;(try clear hb);(try clear hb2);(try clear hk);(try clear hi))|((with_reducible refine gate_callee (f:=55) rfl ?_);refine goesL_ (some 12) rfl rfl Try.func55 (by kernel_rfl) rfl #[.int .i64 t432] rfl qB60 ?_;(with_reducible refine(impl_size.calls t432 t434 _ A3.1).mono ?_);rintro e w7 ⟨rfl,hb⟩;refine⟨_,rfl,?_⟩;have n0_:=qAm (blk_below (g:=gb431) (o:=.cells #[.int .i64 a0_0,.slice A0_1 l0_1.length c0_1] 26 (0,0)) qB89 hb);have n1_:=qAm (below_step qB47 hb);clear BK431;clear HB;have BK431:=n0_;have HB:=n1_;clear n0_ n1_;(try clear hb);(try clear hb2);(try clear hk);(try clear hi)));go_ret2;exact⟨by first|rfl|(simp [errW_none,errW_some] <;> rfl)|(simp [*,errW_none,errW_some] <;> rfl),by repeat(first|(with_reducible first|exact HB.1|apply below_alloc|apply pw_below_drewN|apply below_drew1|refine below_set ?_ GE431.1)|exact HB.1)⟩

/-! ### laws_FnExactIsUnit: function 7 -/
def laws_FnExactIsUnit.j0:Nat→Bool→Int→List Int→Int→List Int→Option (Bool)
 |0,_,_,_,_,_=>none
 |k+1,x34,x436000,x436001,x448000,x448001=>if x34=true then (some false) else ((laws_toCyclo.f k x436000 x436001).bind fun bt450=>((laws_eqCyclo.f k x448000 x448001 bt450.1 bt450.2).bind fun t454=>(if t454=true then (some true) else (some false))))
def laws_FnExactIsUnit.f (k:Nat) (a0_0:Int) (l0_1:List Int):Option (Bool):=(laws_szCyclo.f a0_0 l0_1 1048576).bind fun t436=>(if t436<0 then (some true) else ((laws_toCyclo.f k a0_0 l0_1).bind fun bt437=>((spec_IsUnit.f k bt437.1 bt437.2).bind fun bt441=>((laws_toCyclo.f k a0_0 l0_1).bind fun bt443=>((impl_IsUnit.f k bt443.1 bt443.2).bind fun bt448=>(if (bt448.1 !=bt441.1)=true then (laws_FnExactIsUnit.j0 k true a0_0 l0_1 bt443.1 bt443.2) else (laws_FnExactIsUnit.j0 k (bt448.2 !=bt441.2) a0_0 l0_1 bt443.1 bt443.2)))))))
theorem laws_FnExactIsUnit.mono_l:∀k,(∀y0 y1 y2 y3 y4,LeO (laws_FnExactIsUnit.j0 k y0 y1 y2 y3 y4) (laws_FnExactIsUnit.j0 (k+1) y0 y1 y2 y3 y4))
 |0=>fun _ _ _ _ _ r h=>by simp [laws_FnExactIsUnit.j0] at h
 |k+1=>by
  have ih0:=laws_FnExactIsUnit.mono_l k
  ·intro y0 y1 y2 y3 y4;unfold laws_FnExactIsUnit.j0;repeat' first
   |(with_reducible exact ih0 _ _ _ _ _)
   |(with_reducible exact impl_IsUnit.mono _ _ _)
   |(with_reducible exact laws_eqCyclo.mono _ _ _ _ _)
   |(with_reducible exact laws_toCyclo.mono _ _ _)
   |(with_reducible exact spec_IsUnit.mono _ _ _)
   |(with_reducible exact LeO.refl _)
   |(with_reducible exact LeO.none _)
   |(with_reducible refine LeO.ite ?_ ?_)
   |(with_reducible refine LeO.bind ?_ (fun _=>?_))
   |exact ih0 _ _ _ _ _
   |exact impl_IsUnit.mono _ _ _
   |exact laws_eqCyclo.mono _ _ _ _ _
   |exact laws_toCyclo.mono _ _ _
   |exact spec_IsUnit.mono _ _ _
   |exact LeO.none _
   |refine LeO.ite ?_ ?_
   |refine LeO.bind ?_ (fun _=>?_)
theorem laws_FnExactIsUnit.mono:∀a0 a1 k,LeO (laws_FnExactIsUnit.f k a0 a1) (laws_FnExactIsUnit.f (k+1) a0 a1):=by
 intro a0 a1 k;have ih0:=laws_FnExactIsUnit.mono_l k;unfold laws_FnExactIsUnit.f;repeat' first
   |(with_reducible exact ih0 _ _ _ _ _)
   |(with_reducible exact impl_IsUnit.mono _ _ _)
   |(with_reducible exact laws_eqCyclo.mono _ _ _ _ _)
   |(with_reducible exact laws_toCyclo.mono _ _ _)
   |(with_reducible exact spec_IsUnit.mono _ _ _)
   |(with_reducible exact LeO.refl _)
   |(with_reducible exact LeO.none _)
   |(with_reducible refine LeO.ite ?_ ?_)
   |(with_reducible refine LeO.bind ?_ (fun _=>?_))
   |exact ih0 _ _ _ _ _
   |exact impl_IsUnit.mono _ _ _
   |exact laws_eqCyclo.mono _ _ _ _ _
   |exact laws_toCyclo.mono _ _ _
   |exact spec_IsUnit.mono _ _ _
   |exact LeO.none _
   |refine LeO.ite ?_ ?_
   |refine LeO.bind ?_ (fun _=>?_)
-- TRUE ALONE
theorem laws_FnExactIsUnit.j0_no (k:Nat) (y1:Int) (y2:List Int) (y3:Int) (y4:List Int) (h:laws_FnExactIsUnit.j0 k true y1 y2 y3 y4=some true):False:=by
 cases k with
 |zero=>first|(simp only [laws_FnExactIsUnit.j0] at h;done)|(simp only [laws_FnExactIsUnit.j0] at h;cases h)
 |succ k=>rw [laws_FnExactIsUnit.j0,if_pos rfl] at h;cases h
set_option maxHeartbeats 8000000 in
set_option maxRecDepth 100000 in
theorem laws_FnExactIsUnit.calls (k:Nat) (a0_0:Int) (A0_1:Option Addr) (c0_1:Nat) (l0_1:List Int) (w:World) (hr0_1:Kd.C (Kd.int .i64) w A0_1 l0_1.length l0_1) (hc0_1:l0_1.length≤c0_1) (h:laws_FnExactIsUnit.f k a0_0 l0_1=some true):
  Calls Try.prog 7 #[.agg #[.int .i64 a0_0,.slice A0_1 l0_1.length c0_1]] w fun e w'=>e=.returned (.bool true)∧Below w.heap.size w w':=by
 have hu24:=Try.underlying24;have hu26:=Try.underlying26;have HR0_1:=qAm hr0_1;have HC0_1:=qAm hc0_1;clear hr0_1 hc0_1;have HB:=qAm (Below.refl w.heap.size w);have H:((laws_szCyclo.f a0_0 l0_1 1048576).bind fun t436=>(if t436<0 then (some true) else ((laws_toCyclo.f k a0_0 l0_1).bind fun bt437=>((spec_IsUnit.f k bt437.1 bt437.2).bind fun bt441=>((laws_toCyclo.f k a0_0 l0_1).bind fun bt443=>((impl_IsUnit.f k bt443.1 bt443.2).bind fun bt448=>(if (bt448.1 !=bt441.1)=true then (laws_FnExactIsUnit.j0 k true a0_0 l0_1 bt443.1 bt443.2) else (laws_FnExactIsUnit.j0 k (bt448.2 !=bt441.2) a0_0 l0_1 bt443.1 bt443.2))))))))=some true:=h;clear h;replace H:=qOb H;obtain⟨t436,A20,H⟩:=H;replace H:(if t436<0 then (some true) else ((laws_toCyclo.f k a0_0 l0_1).bind fun bt437=>((spec_IsUnit.f k bt437.1 bt437.2).bind fun bt441=>((laws_toCyclo.f k a0_0 l0_1).bind fun bt443=>((impl_IsUnit.f k bt443.1 bt443.2).bind fun bt448=>(if (bt448.1 !=bt441.1)=true then (laws_FnExactIsUnit.j0 k true a0_0 l0_1 bt443.1 bt443.2) else (laws_FnExactIsUnit.j0 k (bt448.2 !=bt441.2) a0_0 l0_1 bt443.1 bt443.2)))))))=some true:=H;have A2:=qAm A20;clear A20
 by_cases c3:t436<0
 ·rw [if_pos c3] at H;have c3b0:decide (t436<0)=true:=decide_eq_true c3;clear c3 H;go_enter Try.func7,Try.ntmps7;go_wp2_with (first|((with_reducible refine gate_dst (N:=1) rfl ?_);refine box_event ?hg (N:=1) ?hd (cs:=#[.int .i64 a0_0,.slice A0_1 l0_1.length c0_1]) (t:=24) ?hr ?_;(case hd=>rfl);(case hg=>rfl);(case hr=>first|(go_simp;done)|(go_simp;rfl));intro gb435 hg w4 hbox hb;have n0_:=qAm (below_step qB62 hb);have n1_:=qAm (hbox);have n2_:=qAm ((by rw [hg];exact(below_size qB62):w.heap.size≤gb435));have n3_:=qAm ((by rw [hg];exact(below_size qB62):w.heap.size≤gb435));clear HB;have HB:=n0_;have BK435:=n1_;have GW435:=n2_;have GE435:=n3_;clear n0_ n1_ n2_ n3_;clear hb hbox hg;have hcz5_0:w4.cell? ⟨gb435,0,none⟩=some (.int .i64 a0_0):=(blk_cell BK435.1 0).trans rfl;have hcz5_1:w4.cell? ⟨gb435,1,none⟩=some (.slice A0_1 l0_1.length c0_1):=(blk_cell BK435.1 1).trans rfl;have hfz5_0:=blk_frozen BK435.1 0;have hfz5_1:=blk_frozen BK435.1 1)|((with_reducible refine gate_callee (f:=11) rfl ?_);refine goesL_ (some 11) rfl rfl Try.func11 (by kernel_rfl) rfl #[.agg #[.int .i64 a0_0,.slice A0_1 l0_1.length c0_1],.int .i64 1048576] rfl qB60 ?_;(with_reducible refine(laws_szCyclo.calls a0_0 _ _ l0_1 1048576 t436 _ ?side1 ?side2 A2.1).mono ?_);(case side1=>repeat(first|exact(Kd.C_below HR0_1.1 HB.1)|(with_reducible refine Kd.C_alloc ?_ _)|(with_reducible refine Kd.C_drewN ?_ _)|(with_reducible refine Kd.C_drew ?_)));(case side2=>exact HC0_1.1);rintro e w6 ⟨rfl,hb⟩;refine⟨_,rfl,?_⟩;have n0_:=qAm (blk_below (g:=gb435) (o:=.cells #[.int .i64 a0_0,.slice A0_1 l0_1.length c0_1] 24 (0,0)) qB90 hb);have n1_:=qAm (below_step qB48 hb);clear BK435;clear HB;have BK435:=n0_;have HB:=n1_;clear n0_ n1_;(try clear hb);(try clear hb2);(try clear hk);(try clear hi)));go_ret;exact⟨by first|rfl|(simp [errW_none,errW_some] <;> rfl)|(simp [*,errW_none,errW_some] <;> rfl),by repeat(first|(with_reducible first|exact HB.1|apply below_alloc|apply pw_below_drewN|apply below_drew1|refine below_set ?_ GE435.1)|exact HB.1)⟩
 ·rw [if_neg c3] at H;have c3b0:decide (t436<0)=false:=decide_eq_false c3;clear c3;replace H:=qOb H;obtain⟨⟨t437,t438⟩,A70,H⟩:=H;replace H:((spec_IsUnit.f k t437 t438).bind fun bt441=>((laws_toCyclo.f k a0_0 l0_1).bind fun bt443=>((impl_IsUnit.f k bt443.1 bt443.2).bind fun bt448=>(if (bt448.1 !=bt441.1)=true then (laws_FnExactIsUnit.j0 k true a0_0 l0_1 bt443.1 bt443.2) else (laws_FnExactIsUnit.j0 k (bt448.2 !=bt441.2) a0_0 l0_1 bt443.1 bt443.2)))))=some true:=H;have A7:=qAm A70;clear A70;replace H:=qOb H;obtain⟨⟨t441,t442⟩,A80,H⟩:=H;replace H:((laws_toCyclo.f k a0_0 l0_1).bind fun bt443=>((impl_IsUnit.f k bt443.1 bt443.2).bind fun bt448=>(if (bt448.1 !=t441)=true then (laws_FnExactIsUnit.j0 k true a0_0 l0_1 bt443.1 bt443.2) else (laws_FnExactIsUnit.j0 k (bt448.2 !=t442) a0_0 l0_1 bt443.1 bt443.2))))=some true:=H;have A8:=qAm A80;clear A80;replace H:=qOb H;obtain⟨⟨t443,t444⟩,A90,H⟩:=H;replace H:((impl_IsUnit.f k t443 t444).bind fun bt448=>(if (bt448.1 !=t441)=true then (laws_FnExactIsUnit.j0 k true a0_0 l0_1 t443 t444) else (laws_FnExactIsUnit.j0 k (bt448.2 !=t442) a0_0 l0_1 t443 t444)))=some true:=H;have A9:=qAm A90;clear A90;replace H:=qOb H;obtain⟨⟨t448,t449⟩,A100,H⟩:=H;replace H:(if (t448 !=t441)=true then (laws_FnExactIsUnit.j0 k true a0_0 l0_1 t443 t444) else (laws_FnExactIsUnit.j0 k (t449 !=t442) a0_0 l0_1 t443 t444))=some true:=H;have A10:=qAm A100;clear A100;have HC11:=qAm H;clear H;go_enter Try.func7,Try.ntmps7;go_upto_region 8 with (first|((with_reducible refine gate_dst (N:=1) rfl ?_);refine box_event ?hg (N:=1) ?hd (cs:=#[.int .i64 a0_0,.slice A0_1 l0_1.length c0_1]) (t:=24) ?hr ?_;(case hd=>rfl);(case hg=>rfl);(case hr=>first|(go_simp;done)|(go_simp;rfl));intro gb435 hg w12 hbox hb;have n0_:=qAm (below_step qB62 hb);have n1_:=qAm (hbox);have n2_:=qAm ((by rw [hg];exact(below_size qB62):w.heap.size≤gb435));have n3_:=qAm ((by rw [hg];exact(below_size qB62):w.heap.size≤gb435));clear HB;have HB:=n0_;have BK435:=n1_;have GW435:=n2_;have GE435:=n3_;clear n0_ n1_ n2_ n3_;clear hb hbox hg;have hcz13_0:w12.cell? ⟨gb435,0,none⟩=some (.int .i64 a0_0):=(blk_cell BK435.1 0).trans rfl;have hcz13_1:w12.cell? ⟨gb435,1,none⟩=some (.slice A0_1 l0_1.length c0_1):=(blk_cell BK435.1 1).trans rfl;have hfz13_0:=blk_frozen BK435.1 0;have hfz13_1:=blk_frozen BK435.1 1)|((with_reducible refine gate_callee (f:=11) rfl ?_);refine goesL_ (some 11) rfl rfl Try.func11 (by kernel_rfl) rfl #[.agg #[.int .i64 a0_0,.slice A0_1 l0_1.length c0_1],.int .i64 1048576] rfl qB60 ?_;(with_reducible refine(laws_szCyclo.calls a0_0 _ _ l0_1 1048576 t436 _ ?side1 ?side2 A2.1).mono ?_);(case side1=>repeat(first|exact(Kd.C_below HR0_1.1 HB.1)|(with_reducible refine Kd.C_alloc ?_ _)|(with_reducible refine Kd.C_drewN ?_ _)|(with_reducible refine Kd.C_drew ?_)));(case side2=>exact HC0_1.1);rintro e w14 ⟨rfl,hb⟩;refine⟨_,rfl,?_⟩;have n0_:=qAm (blk_below (g:=gb435) (o:=.cells #[.int .i64 a0_0,.slice A0_1 l0_1.length c0_1] 24 (0,0)) qB90 hb);have n1_:=qAm (below_step qB48 hb);clear BK435;clear HB;have BK435:=n0_;have HB:=n1_;clear n0_ n1_;(try clear hb);(try clear hb2);(try clear hk);(try clear hi);have hcz15_0:w14.cell? ⟨gb435,0,none⟩=some (.int .i64 a0_0):=(blk_cell BK435.1 0).trans rfl;have hcz15_1:w14.cell? ⟨gb435,1,none⟩=some (.slice A0_1 l0_1.length c0_1):=(blk_cell BK435.1 1).trans rfl;have hfz15_0:=blk_frozen BK435.1 0;have hfz15_1:=blk_frozen BK435.1 1)|((with_reducible refine gate_callee (f:=13) rfl ?_);refine goesL_ (some 16) rfl rfl Try.func13 (by kernel_rfl) rfl #[.agg #[.int .i64 a0_0,.slice A0_1 l0_1.length c0_1]] rfl qB60 ?_;(with_reducible refine(laws_toCyclo.calls k a0_0 _ _ l0_1 t437 t438 _ ?side1 ?side2 A7.1).mono ?_);(case side1=>repeat(first|exact(Kd.C_below HR0_1.1 HB.1)|(with_reducible refine Kd.C_alloc ?_ _)|(with_reducible refine Kd.C_drewN ?_ _)|(with_reducible refine Kd.C_drew ?_)));(case side2=>exact HC0_1.1);rintro e w16 ⟨v439,rfl,ho0,hb⟩;refine⟨_,rfl,?_⟩;have n0_:=qAm (Kd.R_lower ho0 (below_size qB48));have n1_:=qAm (blk_below (g:=gb435) (o:=.cells #[.int .i64 a0_0,.slice A0_1 l0_1.length c0_1] 24 (0,0)) qB90 hb);have n2_:=qAm (below_step qB48 hb);clear BK435;clear HB;have HO440:=n0_;have BK435:=n1_;have HB:=n2_;clear n0_ n1_ n2_;(try clear hb);(try clear hb2);(try clear hk);(try clear hi);(try clear ho0);obtain⟨Ao17,co17,eo17⟩:=Kd.R_slice HO440.1;subst eo17)|((with_reducible refine gate_callee (f:=24) rfl ?_);refine goesL_ (some 17) rfl rfl Try.func24 (by kernel_rfl) rfl #[.agg #[.int .i64 t437,.slice Ao17 t438.length co17]] rfl qB60 ?_;(with_reducible refine(spec_IsUnit.calls k t437 _ _ t438 t441 t442 _ ?side1 ?side2 A8.1).mono ?_);(case side1=>repeat(first|exact(Kd.R_reads' HO440.1).2.2|(with_reducible refine Kd.C_alloc ?_ _)|(with_reducible refine Kd.C_drewN ?_ _)|(with_reducible refine Kd.C_drew ?_)));(case side2=>exact(Kd.R_reads' HO440.1).2.1);rintro e w18 ⟨rfl,hb⟩;refine⟨_,rfl,?_⟩;have n0_:=qAm (Kd.R_below qB115 hb);have n1_:=qAm (blk_below (g:=gb435) (o:=.cells #[.int .i64 a0_0,.slice A0_1 l0_1.length c0_1] 24 (0,0)) qB90 hb);have n2_:=qAm (below_step qB48 hb);clear HO440;clear BK435;clear HB;have HO440:=n0_;have BK435:=n1_;have HB:=n2_;clear n0_ n1_ n2_;(try clear hb);(try clear hb2);(try clear hk);(try clear hi);have hcz19_0:w18.cell? ⟨gb435,0,none⟩=some (.int .i64 a0_0):=(blk_cell BK435.1 0).trans rfl;have hcz19_1:w18.cell? ⟨gb435,1,none⟩=some (.slice A0_1 l0_1.length c0_1):=(blk_cell BK435.1 1).trans rfl;have hfz19_0:=blk_frozen BK435.1 0;have hfz19_1:=blk_frozen BK435.1 1)|((with_reducible refine gate_callee (f:=13) rfl ?_);refine goesL_ (some 21) rfl rfl Try.func13 (by kernel_rfl) rfl #[.agg #[.int .i64 a0_0,.slice A0_1 l0_1.length c0_1]] rfl qB60 ?_;(with_reducible refine(laws_toCyclo.calls k a0_0 _ _ l0_1 t443 t444 _ ?side1 ?side2 A9.1).mono ?_);(case side1=>repeat(first|exact(Kd.C_below HR0_1.1 HB.1)|(with_reducible refine Kd.C_alloc ?_ _)|(with_reducible refine Kd.C_drewN ?_ _)|(with_reducible refine Kd.C_drew ?_)));(case side2=>exact HC0_1.1);rintro e w20 ⟨v445,rfl,ho0,hb⟩;refine⟨_,rfl,?_⟩;have n0_:=qAm (Kd.R_elder' qB115 (Kd.R_base ho0) hb);have n1_:=qAm (Kd.R_lower (Kd.R_new' ho0 (Kd.R_lt qB115)) (below_size qB48));have n2_:=qAm (blk_below (g:=gb435) (o:=.cells #[.int .i64 a0_0,.slice A0_1 l0_1.length c0_1] 24 (0,0)) qB90 hb);have n3_:=qAm (below_step qB48 hb);clear HO440;clear BK435;clear HB;have HO440:=n0_;have HO446:=n1_;have BK435:=n2_;have HB:=n3_;clear n0_ n1_ n2_ n3_;(try clear hb);(try clear hb2);(try clear hk);(try clear hi);(try clear ho0))|((with_reducible refine gate_dst (N:=6) rfl ?_);refine box_event ?hg (N:=6) ?hd (cs:=#[.int .i64 0,.slice none 0 0]) (t:=26) ?hr ?_;(case hd=>rfl);(case hg=>rfl);(case hr=>first|(go_simp;done)|(go_simp;rfl));intro gb447 hg w21 hbox hb;have n0_:=qAm (Kd.R_below qB115 hb);have n1_:=qAm (Kd.R_below (by (with_reducible repeat(first|apply Kd.R_alloc|apply Kd.R_drewN|apply Kd.R_drew));exact HO446.1) hb);have n2_:=qAm (blk_below (g:=gb435) (o:=.cells #[.int .i64 a0_0,.slice A0_1 l0_1.length c0_1] 24 (0,0)) qB90 hb);have n3_:=qAm (below_step qB48 hb);have n4_:=qAm (hbox);have n5_:=qAm ((by rw [hg];exact(below_size qB48):w.heap.size≤gb447));have n6_:=qAm ((by rw [hg];exact(below_size qB48):w.heap.size≤gb447));have n7_:=qAm ((by rw [hg];exact Nat.ne_of_lt (blk_lt (g:=gb435) (o:=.cells #[.int .i64 a0_0,.slice A0_1 l0_1.length c0_1] 24 (0,0)) qB90):gb435≠gb447));have n8_:=qAm ((by rw [hg];exact Nat.ne_of_gt (blk_lt (g:=gb435) (o:=.cells #[.int .i64 a0_0,.slice A0_1 l0_1.length c0_1] 24 (0,0)) qB90):gb447≠gb435));clear HO440;clear HO446;clear BK435;clear HB;have HO440:=n0_;have HO446:=n1_;have BK435:=n2_;have HB:=n3_;have BK447:=n4_;have GW447:=n5_;have GE447:=n6_;have NB435_447:=n7_;have NB447_435:=n8_;clear n0_ n1_ n2_ n3_ n4_ n5_ n6_ n7_ n8_;clear hb hbox hg;have hnb22:=NB447_435.1;have hnc22:=NB435_447.1;have hcz23_0:w21.cell? ⟨gb447,0,none⟩=some (.int .i64 0):=(blk_cell BK447.1 0).trans rfl;have hcz23_1:w21.cell? ⟨gb447,1,none⟩=some (.slice none 0 0):=(blk_cell BK447.1 1).trans rfl;have hfz23_0:=blk_frozen BK447.1 0;have hfz23_1:=blk_frozen BK447.1 1;obtain⟨Ao24,co24,eo24⟩:=Kd.R_slice HO446.1;subst eo24)|((with_reducible refine gate_callee (f:=25) rfl ?_);refine goesL_ (some 24) rfl rfl Try.func25 (by kernel_rfl) rfl #[.agg #[.int .i64 t443,.slice Ao24 t444.length co24]] rfl qB60 ?_;(with_reducible refine(impl_IsUnit.calls k t443 _ _ t444 t448 t449 _ ?side1 ?side2 A10.1).mono ?_);(case side1=>refine(Kd.R_reads' (e:=2) (base:=w.heap.size) (ok:=fun k_=>(True∧some k_≠(.slice Ao17 t438.length co17:Value).ownBlock)) (n:=t444.length) (c:=co24) ?_).2.2;exact qB8);(case side2=>exact(Kd.R_reads' HO446.1).2.1);rintro e w25 ⟨rfl,hb⟩;refine⟨_,rfl,?_⟩;have n0_:=qAm (Kd.R_below (by (with_reducible repeat(first|apply Kd.R_alloc|apply Kd.R_drewN|apply Kd.R_drew));exact(Kd.R_mono (Kd.R_far (p:=⟨gb447,1,none⟩) (Kd.R_far (p:=⟨gb447,0,none⟩) (Kd.R_types HO440.1 BK447.1 (by decide)) (fun _ hk=>hk.2) (.int .i64 t443)) (fun _ hk=>hk.2) (.slice Ao24 t444.length co24)) (fun _ h_=>h_.1))) hb);have n1_:=qAm (Kd.R_below qB8 hb);have n2_:=qAm (blk_below (g:=gb435) (o:=.cells #[.int .i64 a0_0,.slice A0_1 l0_1.length c0_1] 24 (0,0)) (by (with_reducible repeat(first|refine blk_drewN ?_ _|refine blk_drew ?_|refine blk_alloc ?_ _));refine blk_far ?_ NB435_447.1 _;(with_reducible repeat(first|refine blk_drewN ?_ _|refine blk_drew ?_|refine blk_alloc ?_ _));refine blk_far ?_ NB435_447.1 _;(with_reducible repeat(first|refine blk_drewN ?_ _|refine blk_drew ?_|refine blk_alloc ?_ _));exact BK435.1) hb);have n3_:=qAm (blk_below (g:=gb447) (o:=.cells #[.int .i64 t443,.slice Ao24 t444.length co24] 26 (0,0)) (by (with_reducible repeat(first|refine blk_drewN ?_ _|refine blk_drew ?_|refine blk_alloc ?_ _));refine blk_put (cs:=#[.int .i64 t443,.slice none 0 0]) ?_ 1 _ rfl;(with_reducible repeat(first|refine blk_drewN ?_ _|refine blk_drew ?_|refine blk_alloc ?_ _));refine blk_put (cs:=#[.int .i64 0,.slice none 0 0]) ?_ 0 _ rfl;(with_reducible repeat(first|refine blk_drewN ?_ _|refine blk_drew ?_|refine blk_alloc ?_ _));exact BK447.1) hb);have n4_:=qAm (below_step qB27 hb);clear HO440;clear HO446;clear BK435;clear BK447;clear HB;have HO440:=n0_;have HO446:=n1_;have BK435:=n2_;have BK447:=n3_;have HB:=n4_;clear n0_ n1_ n2_ n3_ n4_;(try clear hb);(try clear hb2);(try clear hk);(try clear hi)))
  (try simp only [Act.put,qSa,qSb,qSc])
  go_cut [34] (fun v34 wc=>∃(kq:Nat) (x34_10:Bool),v34=.bool x34_10∧Aside0 (laws_FnExactIsUnit.j0 kq x34_10 a0_0 l0_1 t443 t444=some true)∧Aside0 (kq≤k)∧Aside0 (Kd.R (Kd.int .i64) 2 wc w.heap.size (fun _=>True) (.slice Ao24 t444.length co24) t444)∧Aside0 (wc.heap[gb435]? =some (.cells #[.int .i64 a0_0,(.slice A0_1 l0_1.length c0_1)] 24 (0,0)))∧Aside0 (wc.heap[gb447]? =some (.cells #[.int .i64 t443,(.slice Ao24 t444.length co24)] 26 (0,0)))∧Aside0 (Below w.heap.size w wc))
  case first=>
   have H:=HC11.1;clear HC11
   by_cases c26:(t448 !=t441)=true
   ·rw [if_pos c26] at H;exact(laws_FnExactIsUnit.j0_no _ _ _ _ _ H).elim
   ·rw [if_neg c26] at H;have c26b0:(t448 !=t441)=false:=by simpa using c26
    (try(have c26b1:decide (t448=t441)=true:=by simpa using c26))
    (try(have c26b2:(t448==t441)=true:=by simpa using c26))
    clear c26
    (first|rw [c26b0]|(simp only [i64_w,i32_w];rw [c26b0])|skip)
    have H':=qAm H;clear H;go_wp2;go_meet
    case rel=>exact⟨_,((t449 !=t442)),qB127,H',⟨by first|omega|exact Nat.le_refl _⟩,⟨by (with_reducible repeat(first|apply Kd.R_alloc|apply Kd.R_drewN|apply Kd.R_drew));exact Kd.R_mono HO446.1 (fun _ hk=>trivial)⟩,⟨by (with_reducible repeat(first|refine blk_drewN ?_ _|refine blk_drew ?_|refine blk_alloc ?_ _));exact BK435.1⟩,⟨by (with_reducible repeat(first|refine blk_drewN ?_ _|refine blk_drew ?_|refine blk_alloc ?_ _));exact BK447.1⟩,⟨by repeat(first|(with_reducible first|exact HB.1|apply below_alloc|apply pw_below_drewN|apply below_drew1|refine below_set ?_ GE435.1|refine below_set ?_ GE447.1)|exact HB.1)⟩⟩
  case rest=>
   clear HC11;try clear c1
   try clear c2
   try clear p2
   try clear c3
   try clear c3b0
   try clear c7
   try clear c11
   try clear c13
   try clear c22
   try clear c24
   try clear c25
   try clear c26
   try clear c26b0
   try clear c26b1
   try clear c26b2
   try clear hcz13_0
   try clear hcz13_1
   try clear hcz15_0
   try clear hcz15_1
   try clear hcz19_0
   try clear hcz19_1
   try clear hcz23_0
   try clear hcz23_1
   try clear hcz5_0
   try clear hcz5_1
   try clear hfz13_0
   try clear hfz13_1
   try clear hfz15_0
   try clear hfz15_1
   try clear hfz19_0
   try clear hfz19_1
   try clear hfz23_0
   try clear hfz23_1
   try clear hfz5_0
   try clear hfz5_1
   obtain⟨kq,x34_10,rfl,HA,HJ10,HO_448001,BK435,BK447,HB⟩:=hcut;cases kq with
   |zero=>exact absurd HA.1 (by simp [laws_FnExactIsUnit.j0])
   |succ kj10=>
    have H:=HA.1;clear HA;simp only [laws_FnExactIsUnit.j0] at H
    by_cases c27:x34_10=true
    ·subst c27;have H1:(some false)=some true:=by rw [if_pos rfl] at H;exact H
     cases H1
    ·replace c27:=Bool.eq_false_iff.mpr c27;subst c27;have H1:((laws_toCyclo.f kj10 a0_0 l0_1).bind fun bt450=>((laws_eqCyclo.f kj10 t443 t444 bt450.1 bt450.2).bind fun t454=>(if t454=true then (some true) else (some false))))=some true:=by rw [if_neg (show ¬(false=true) by decide)] at H;exact H
     clear H;have H:=H1;clear H1;replace H:=qOb H;obtain⟨⟨t450,t451⟩,A280,H⟩:=H;replace H:((laws_eqCyclo.f kj10 t443 t444 t450 t451).bind fun t454=>(if t454=true then (some true) else (some false)))=some true:=H;have A28:=qAm A280;clear A280;replace H:=qOb H;obtain⟨t454,A290,H⟩:=H;replace H:(if t454=true then (some true) else (some false))=some true:=H;have A29:=qAm A290;clear A290
     by_cases c30:t454=true
     ·subst c30;have H1:(some true)=some true:=rfl;clear H;have H:=H1;clear H1 H;try go_wp2
      have n0_:=qAm (Kd.R_drew HO_448001.1);have n1_:=qAm (blk_drew BK435.1);have n2_:=qAm (blk_drew BK447.1);have n3_:=qAm (below_drew1 HB.1);clear HO_448001 BK435 BK447 HB;have HO_448001:=n0_;have BK435:=n1_;have BK447:=n2_;have HB:=n3_;clear n0_ n1_ n2_ n3_;refine start_ (n:=5) (S:=fun w'=>w'.cell? ⟨gb447,0,none⟩=some (.int .i64 t443)∧w'.cell? ⟨gb447,1,none⟩=some (.slice Ao24 t444.length co24)∧w'.cell? ⟨gb435,0,none⟩=some (.int .i64 a0_0)∧w'.cell? ⟨gb435,1,none⟩=some (.slice A0_1 l0_1.length c0_1)) (ds:=[]) #[false,false,false,false,false] (by kernel_rfl) rfl rfl ⟨(blk_cell BK447.1 0).trans rfl,(blk_cell BK447.1 1).trans rfl,(blk_cell BK435.1 0).trans rfl,(blk_cell BK435.1 1).trans rfl⟩ (fun hHeld=>?_);generalize wc.drew=w31 at HO_448001 BK435 BK447 HB hHeld ⊢;refine take_ (i:=0) (N:=some 35) (v:=?_) (a':=?_) #[true,false,false,false,false] rfl rfl (by kernel_rfl) (fun _ _ _ h=>h) (Or.inl ⟨by rfl,?_⟩) hHeld ?_ ?_;rotate_left
      ·rintro w' ⟨s0,s1,s2,s3⟩;go_simp;with_reducible rfl
      rotate_left
      ·simp only [Act.put,qSa,qSb,qSc,i64_w,i32_w];rfl
      refine take_ (i:=1) (N:=some 36) (v:=?_) (a':=?_) #[true,true,false,false,false] rfl rfl (by kernel_rfl) (fun _ _ _ h=>h) (Or.inl ⟨by rfl,?_⟩) hHeld ?_ ?_;rotate_left
      ·rintro w' ⟨s0,s1,s2,s3⟩;go_simp;with_reducible rfl
      rotate_left
      ·simp only [Act.put,qSa,qSb,qSc,i64_w,i32_w];rfl
      refine one_ (i:=2) (N:=some 37) #[true,true,true,false,false] rfl rfl (by kernel_rfl) (by decide) (fun K hK=>?_);refine goes_ Try.func13 (by kernel_rfl) rfl #[.agg #[.int .i64 a0_0,.slice A0_1 l0_1.length c0_1]] (by rfl) rfl rfl qB60 ?_;with_reducible refine(laws_toCyclo.calls kj10 a0_0 _ _ l0_1 t450 t451 _ ?side1 ?side2 A28.1).mono ?_
      (case side1=>repeat(first|exact(Kd.C_below HR0_1.1 HB.1)|(with_reducible refine Kd.C_alloc ?_ _)|(with_reducible refine Kd.C_drewN ?_ _)|(with_reducible refine Kd.C_drew ?_)))
      (case side2=>exact HC0_1.1)
      rintro e w32 ⟨v452,rfl,ho0,hb⟩;refine⟨_,rfl,?_⟩;have n0_:=qAm (Kd.R_elder' qB96 (Kd.R_base ho0) hb);have n1_:=qAm (Kd.R_lower (Kd.R_new' ho0 (Kd.R_lt qB96)) (below_size qB27));have n2_:=qAm (blk_below (g:=gb435) (o:=.cells #[.int .i64 a0_0,.slice A0_1 l0_1.length c0_1] 24 (0,0)) qB90 hb);have n3_:=qAm (blk_below (g:=gb447) (o:=.cells #[.int .i64 t443,.slice Ao24 t444.length co24] 26 (0,0)) qB91 hb);have n4_:=qAm (below_step qB27 hb);clear HO_448001 BK435 BK447 HB;have HO_448001:=n0_;have HO453:=n1_;have BK435:=n2_;have BK447:=n3_;have HB:=n4_;clear n0_ n1_ n2_ n3_ n4_
      (try clear hb)
      (try clear hb2)
      (try clear hk)
      (try clear hi)
      (try clear ho0)
      obtain⟨Ao33,co33,eo33⟩:=Kd.R_slice HO453.1
      (first|subst eo33|(injection eo33 with f1_ f2_ f3_;have f4_:=f1_.symm;have f5_:=f3_.symm;clear f1_ f2_ f3_;subst f4_;subst f5_))
      refine hK.out _ _ ⟨(blk_cell BK447.1 0).trans rfl,(blk_cell BK447.1 1).trans rfl,(blk_cell BK435.1 0).trans rfl,(blk_cell BK435.1 1).trans rfl⟩ (fun hHeld=>?_);clear hK K;refine norm_ (a':=?_) ?_ ?_;rotate_left
      ·show Act.put _ (some 37) _=_
       simp only [Act.put,qSa,qSb,qSc,i64_w,i32_w];rfl
      refine one_ (i:=3) (N:=some 38) #[true,true,true,true,false] rfl rfl (by kernel_rfl) (by decide) (fun K hK=>?_);refine goes_ Try.func15 (by kernel_rfl) rfl #[.agg #[.int .i64 t443,.slice Ao24 t444.length co24],.agg #[.int .i64 t450,.slice Ao33 t451.length co33]] (by rfl) rfl rfl qB60 ?_;with_reducible refine(laws_eqCyclo.calls kj10 t443 _ _ t444 t450 _ _ t451 true _ ?side1 ?side2 ?side3 ?side4 A29.1).mono ?_
      (case side1=>repeat(first|exact(Kd.R_reads' HO_448001.1).2.2|(with_reducible refine Kd.C_alloc ?_ _)|(with_reducible refine Kd.C_drewN ?_ _)|(with_reducible refine Kd.C_drew ?_)))
      (case side2=>exact(Kd.R_reads' HO_448001.1).2.1)
      (case side3=>repeat(first|exact(Kd.R_reads' HO453.1).2.2|(with_reducible refine Kd.C_alloc ?_ _)|(with_reducible refine Kd.C_drewN ?_ _)|(with_reducible refine Kd.C_drew ?_)))
      (case side4=>exact(Kd.R_reads' HO453.1).2.1)
      rintro e w34 ⟨rfl,hb⟩;refine⟨_,rfl,?_⟩;have n0_:=qAm (Kd.R_below qB96 hb);have n1_:=qAm (Kd.R_below (by (with_reducible repeat(first|apply Kd.R_alloc|apply Kd.R_drewN|apply Kd.R_drew));exact HO453.1) hb);have n2_:=qAm (blk_below (g:=gb435) (o:=.cells #[.int .i64 a0_0,.slice A0_1 l0_1.length c0_1] 24 (0,0)) qB90 hb);have n3_:=qAm (blk_below (g:=gb447) (o:=.cells #[.int .i64 t443,.slice Ao24 t444.length co24] 26 (0,0)) qB91 hb);have n4_:=qAm (below_step qB27 hb);clear HO_448001 HO453 BK435 BK447 HB;have HO_448001:=n0_;have HO453:=n1_;have BK435:=n2_;have BK447:=n3_;have HB:=n4_;clear n0_ n1_ n2_ n3_ n4_
      (try clear hb)
      (try clear hb2)
      (try clear hk)
      (try clear hi)
      refine hK.out _ _ ⟨(blk_cell BK447.1 0).trans rfl,(blk_cell BK447.1 1).trans rfl,(blk_cell BK435.1 0).trans rfl,(blk_cell BK435.1 1).trans rfl⟩ (fun hHeld=>?_);clear hK K;refine norm_ (a':=?_) ?_ ?_;rotate_left
      ·show Act.put _ (some 38) _=_
       simp only [Act.put,qSa,qSb,qSc,i64_w,i32_w];rfl
      refine pure_ (i:=4) (N:=some 39) (v:=?_) (a':=?_) #[true,true,true,true,true] rfl rfl (by kernel_rfl) (fun _ _ _ h=>h) (Or.inl ⟨by rfl,?_⟩) ?_ ?_;rotate_left
      ·intro w';go_simp;with_reducible rfl
      rotate_left
      ·simp only [Act.put,qSa,qSb,qSc,i64_w,i32_w];rfl
      refine done_ (by kernel_rfl) ?_;try go_wp2
      go_ret;exact⟨by first|rfl|(simp [errW_none,errW_some] <;> rfl)|(simp [*,errW_none,errW_some] <;> rfl),by repeat(first|(with_reducible first|exact HB.1|apply below_alloc|apply pw_below_drewN|apply below_drew1|refine below_set ?_ GE435.1|refine below_set ?_ GE447.1)|exact HB.1)⟩
     ·replace c30:=Bool.eq_false_iff.mpr c30;subst c30;have H1:(some false)=some true:=by rw [if_neg (show ¬(false=true) by decide)] at H;exact H
      cases H1

/-- THE ONE PURE STATEMENT of laws_FnExactIsUnit. -/
def laws_FnExactIsUnit.Pure:Prop:=∀(a0_0:Int) (l0_1:List Int),(Lit.int .i64 a0_0).wf=true→l0_1.length≤maxLen→(∀x∈l0_1,(Lit.int .i64 x).wf=true)→∃k,laws_FnExactIsUnit.f k a0_0 l0_1=some true
theorem laws_FnExactIsUnit.walk (P:laws_FnExactIsUnit.Pure) (a0_0:Int) (a0_1:Option Addr) (len0_1 cap0_1:Nat) (z0_1:List Int) (w:World) (w0_0:(Lit.int .i64 a0_0).wf=true) (w0_1:(a0_1=none∧len0_1=0∧cap0_1=0∧z0_1=[])∨∃x,a0_1=some x∧len0_1≤cap0_1∧cap0_1≤maxLen∧z0_1.length=cap0_1∧(∀i,i<z0_1.length→w.cell? (x.add i)=some (.int .i64 (z0_1.getD i 0)))∧∀n∈z0_1,(Lit.int .i64 n).wf=true):
  Calls Try.prog 7 #[.agg #[.int .i64 a0_0,.slice a0_1 len0_1 cap0_1]] w fun e w'=>e=.returned (.bool true)∧Below w.heap.size w w':=by
 obtain⟨l0_1,rfl,hr0_1,hm0_1,hw0_1,hc0_1⟩:=ReadsInt.ofRowC w0_1;obtain⟨k,h⟩:=P a0_0 l0_1 w0_0 hm0_1 hw0_1;refine(laws_FnExactIsUnit.calls k a0_0 _ _ l0_1 w (Kd.C_of_reads (d:=(0:Int)) (h1:=fun _=>rfl) hr0_1) hc0_1 h).mono ?_;rintro e w' ⟨rfl,hd⟩;exact⟨rfl,hd⟩

end Go.Proofs.Ythljmbobccaalaa.PFnExactIsUnit
