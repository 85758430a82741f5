/- The functions that the law reaches, as plain functions, each with the proof that the program comes to it; no condition. Written by a program of this session (wip/mp.py) over the printing of the kit; what is marked HAND is told by hand. -/
import Derived.Test.YtefhabkikaadiaaPFnExactOrthogonalSumx0
import Derived.Test.YtefhabkikaadiaaPFnExactOrthogonalSumx10
namespace Go.Proofs.Ytefhabkikaadiaa.PFnExactOrthogonalSum
open Go.RowKit Go.Proofs.YtefhabkikaadiaaW.PrintWords Go.Proofs.YtefhabkikaadiaaW.PrintLast Go.Proofs.YtefhabkikaadiaaW.PrintMore
attribute [local go_sem] max2_int min2_int max_two min_two max_three min_three max_four min_four   -- for this text's walks alone
set_option linter.unusedVariables false
set_option linter.unusedSimpArgs false

/-! ### impl_exponents: function 113 -/
def impl_exponents.l0:Nat→List Int→Int→Int→Int→Int→Int→Option (List Int)
 |0,_,_,_,_,_,_=>none
 |k+1,x3,x14,x15,x338000,x338001,x338002=>if x15<x14 then (if 0≤x15 then (if x15<(x3.length:Int) then (if x15 > 0 then (if x338001=0 then (none) else (impl_exponents.l0 k (x3.set (x15:Int).toNat (Int.tmod (wrap64 ((rd x3 x15)*x338002)) x338001)) x14 (wrap64 (x15+1)) x338000 x338001 x338002)) else (impl_exponents.l0 k x3 x14 (wrap64 (x15+1)) x338000 x338001 x338002)) else (none)) else (none)) else (some x3)
def impl_exponents.f (k:Nat) (a0_0:Int) (a0_1:Int) (a0_2:Int):Option (List Int):=(impl_indices.f k a0_0).bind fun bt338=>(impl_exponents.l0 k bt338.1 (bt338.1.length:Int) 0 a0_0 a0_1 a0_2)
theorem impl_exponents.mono_l:∀k,(∀y0 y1 y2 y3 y4 y5,LeO (impl_exponents.l0 k y0 y1 y2 y3 y4 y5) (impl_exponents.l0 (k+1) y0 y1 y2 y3 y4 y5))
 |0=>fun _ _ _ _ _ _ r h=>by simp [impl_exponents.l0] at h
 |k+1=>by
  have ih0:=impl_exponents.mono_l k
  ·intro y0 y1 y2 y3 y4 y5;unfold impl_exponents.l0;repeat' first
   |(with_reducible exact ih0 _ _ _ _ _ _)
   |(with_reducible exact impl_indices.mono _ _)
   |(with_reducible exact LeO.refl _)
   |(with_reducible exact LeO.none _)
   |(with_reducible refine LeO.ite ?_ ?_)
   |(with_reducible refine LeO.bind ?_ (fun _=>?_))
   |exact ih0 _ _ _ _ _ _
   |exact impl_indices.mono _ _
   |exact LeO.none _
   |refine LeO.ite ?_ ?_
   |refine LeO.bind ?_ (fun _=>?_)
theorem impl_exponents.mono:∀a0 a1 a2 k,LeO (impl_exponents.f k a0 a1 a2) (impl_exponents.f (k+1) a0 a1 a2):=by
 intro a0 a1 a2 k;have ih0:=impl_exponents.mono_l k;unfold impl_exponents.f;repeat' first
   |(with_reducible exact ih0 _ _ _ _ _ _)
   |(with_reducible exact impl_indices.mono _ _)
   |(with_reducible exact LeO.refl _)
   |(with_reducible exact LeO.none _)
   |(with_reducible refine LeO.ite ?_ ?_)
   |(with_reducible refine LeO.bind ?_ (fun _=>?_))
   |exact ih0 _ _ _ _ _ _
   |exact impl_indices.mono _ _
   |exact LeO.none _
   |refine LeO.ite ?_ ?_
   |refine LeO.bind ?_ (fun _=>?_)
set_option maxHeartbeats 8000000 in
set_option maxRecDepth 100000 in
theorem impl_exponents.calls (k:Nat) (a0_0:Int) (a0_1:Int) (a0_2:Int) (r:List Int) (w:World) (h:impl_exponents.f k a0_0 a0_1 a0_2=some r):
  Calls Try.prog 113 #[.agg #[.int .i64 a0_0,.int .i64 a0_1,.int .i64 a0_2]] w fun e w'=>∃v0_:Value,e=.returned (v0_)∧Kd.R (Kd.int .i64) 2 w' w.heap.size (fun _=>True) v0_ r∧Below w.heap.size w w':=by
 have hu40:=Try.underlying40;have HB:=qAm (Below.refl w.heap.size w);have H:((impl_indices.f k a0_0).bind fun bt338=>(impl_exponents.l0 k bt338.1 (bt338.1.length:Int) 0 a0_0 a0_1 a0_2))=some r:=h;clear h;replace H:=qOb H;obtain⟨⟨t338,t339⟩,A20,H⟩:=H;replace H:(impl_exponents.l0 k t338 (t338.length:Int) 0 a0_0 a0_1 a0_2)=some r:=H;have A2:=qAm A20;clear A20;have H':=qAm H;clear H;go_enter Try.func113,Try.ntmps113;go_wp2_with (first|((with_reducible refine gate_dst (N:=1) rfl ?_);refine box_event ?hg (N:=1) ?hd (cs:=#[.int .i64 a0_0,.int .i64 a0_1,.int .i64 a0_2]) (t:=40) ?hr ?_;(case hd=>rfl);(case hg=>rfl);(case hr=>first|(go_simp;done)|(go_simp;rfl));intro gb337 hg w3 hbox hb;have n0_:=qAm (below_step qB95 hb);have n1_:=qAm (hbox);have n2_:=qAm ((by rw [hg];exact(below_size qB95):w.heap.size≤gb337));have n3_:=qAm ((by rw [hg];exact(below_size qB95):w.heap.size≤gb337));clear HB;have HB:=n0_;have BK337:=n1_;have GW337:=n2_;have GE337:=n3_;clear n0_ n1_ n2_ n3_;clear hb hbox hg;have hcz4_0:w3.cell? ⟨gb337,0,none⟩=some (.int .i64 a0_0):=(blk_cell BK337.1 0).trans rfl;have hcz4_1:w3.cell? ⟨gb337,1,none⟩=some (.int .i64 a0_1):=(blk_cell BK337.1 1).trans rfl;have hcz4_2:w3.cell? ⟨gb337,2,none⟩=some (.int .i64 a0_2):=(blk_cell BK337.1 2).trans rfl;have hfz4_0:=blk_frozen BK337.1 0;have hfz4_1:=blk_frozen BK337.1 1;have hfz4_2:=blk_frozen BK337.1 2)|((with_reducible refine gate_callee (f:=123) rfl ?_);refine goesL_ (some 10) rfl rfl Try.func123 (by kernel_rfl) rfl #[.int .i64 a0_0] rfl qB90 ?_;(with_reducible refine(impl_indices.calls k a0_0 t338 t339 _ A2.1).mono ?_);rintro e w5 ⟨v340,rfl,ho0,hb⟩;refine⟨_,rfl,?_⟩;have n0_:=qAm (Kd.R_lower ho0 (below_size qB65));have n1_:=qAm (blk_below (g:=gb337) (o:=.cells #[.int .i64 a0_0,.int .i64 a0_1,.int .i64 a0_2] 40 (0,0)) qB129 hb);have n2_:=qAm (below_step qB65 hb);clear BK337;clear HB;have HO341:=n0_;have BK337:=n1_;have HB:=n2_;clear n0_ n1_ n2_;(try clear hb);(try clear hb2);(try clear hk);(try clear hi);(try clear ho0);obtain⟨Ao6,co6,eo6⟩:=Kd.R_slice HO341.1;subst eo6));try simp only [Act.put,qSa,qSc,qSb]
 go_loopg [15] k (fun kq v15 w'=>∃(x3_1:List Int) (x15_1:Int),v15=.int .i64 x15_1∧Aside0 (impl_exponents.l0 kq x3_1 (t338.length:Int) x15_1 a0_0 a0_1 a0_2=some r)∧Aside0 (kq≤k)∧Aside0 (Kd.R (Kd.int .i64) 2 w' w.heap.size (fun _=>True) (.slice Ao6 t338.length co6) x3_1)∧Aside0 (w'.heap[gb337]? =some (.cells #[.int .i64 a0_0,.int .i64 a0_1,.int .i64 a0_2] 40 (0,0)))∧Aside0 (Below w.heap.size w w'))
 case atStart=>exact⟨(t338),(0),qB178,H',⟨Nat.le_refl _⟩,⟨by (with_reducible repeat(first|apply Kd.R_alloc|apply Kd.R_drewN|apply Kd.R_drew));exact HO341.1⟩,⟨by (with_reducible repeat(first|refine blk_drewN ?_ _|refine blk_drew ?_|refine blk_alloc ?_ _));exact BK337.1⟩,⟨by repeat(first|(with_reducible first|exact HB.1|apply below_alloc|apply pw_below_drewN|apply below_drew1|refine below_set ?_ GE337.1)|exact HB.1)⟩⟩
 case round=>
  clear H';try clear c1
  try clear p2
  try clear hcz4_0
  try clear hcz4_1
  try clear hcz4_2
  try clear hfz4_0
  try clear hfz4_1
  try clear hfz4_2
  obtain⟨x3_1,x15_1,rfl,HA,HK1,HO_3,BK337,HB⟩:=hrel;have hl3_1:=(Kd.R_reads' HO_3.1).1;rw [hl3_1] at HO_3
  (try simp only [hl3_1])
  (try simp only [hl3_1] at BK337)
  cases gk with
  |zero=>exact absurd HA.1 (by simp [impl_exponents.l0])
  |succ k1=>
   have H:=HA.1;clear HA;simp only [impl_exponents.l0] at H
   by_cases c7:x15_1<(t338.length:Int)
   ·rw [if_pos c7] at H;have c7b0:decide (x15_1<(t338.length:Int))=true:=decide_eq_true c7;clear c7
    by_cases c8:0≤x15_1
    ·rw [if_pos c8] at H;have c8b0:decide (0≤x15_1)=true:=decide_eq_true c8;clear c8
     by_cases c9:x15_1<(x3_1.length:Int)
     ·rw [if_pos c9] at H;have c9b0:decide (x15_1<(x3_1.length:Int))=true:=decide_eq_true c9;clear c9
      by_cases c10:x15_1 > 0
      ·rw [if_pos c10] at H;have c10b0:decide (0<x15_1)=true:=decide_eq_true c10;clear c10
       by_cases c11:a0_1=0
       ·rw [if_pos c11] at H;exact absurd H (by simp)
       ·rw [if_neg c11] at H;have c11b0:(a0_1==0)=false:=beq_eq_false_iff_ne.mpr c11;have c11b1:(a0_1 !=0)=true:=bne_iff_ne.mpr c11;obtain⟨y343,hy343⟩:∃y_:List Int,y_=(x3_1.set (x15_1:Int).toNat (Int.tmod (wrap64 ((rd x3_1 x15_1)*a0_2)) a0_1)):=⟨_,rfl⟩
        replace H:(impl_exponents.l0 k1 y343 (t338.length:Int) (wrap64 (x15_1+1)) a0_0 a0_1 a0_2)=some r:=by first|(rw [hy343];with_reducible exact H)|(have H2_:=(Option.bind_some _ _).symm.trans H;rw [hy343];with_reducible exact H2_)|(have H2_:=(Option.bind_some _ _).symm.trans H;with_reducible exact H2_)|with_reducible exact H|(rw [hy343];exact H)|exact H
        have Ny343:=qAm hy343;clear hy343;have H':=qAm H;clear H;have p342:0≤(x15_1:Int):=of_decide_eq_true qB177;have q342:x15_1<(x3_1.length:Int):=of_decide_eq_true qB177;obtain⟨ad342,e342,hx342_0⟩:=Kd.at_int (Kd.R_reads' HO_3.1).2.2 x15_1 p342 q342;cases e342
        replace p342:=eq_true p342;replace q342:=eq_true q342;have hcz13_0:wr.cell? ⟨gb337,0,none⟩=some (.int .i64 a0_0):=(blk_cell BK337.1 0).trans rfl;have hcz13_1:wr.cell? ⟨gb337,1,none⟩=some (.int .i64 a0_1):=(blk_cell BK337.1 1).trans rfl;have hcz13_2:wr.cell? ⟨gb337,2,none⟩=some (.int .i64 a0_2):=(blk_cell BK337.1 2).trans rfl;have hfz13_0:=blk_frozen BK337.1 0;have hfz13_1:=blk_frozen BK337.1 1;have hfz13_2:=blk_frozen BK337.1 2;have p12:0≤(x15_1:Int):=of_decide_eq_true qB177;have q12:(x15_1:Int)<((x3_1.length:Int):Int):=of_decide_eq_true qB177;obtain⟨go12,co12,eo12,gb12,gl12,cl12,HG12⟩:=Kd.R_form HO_3.1 (by omega)
        (first|cases eo12|(injection eo12 with ea_ en_ ec_;(first|subst ea_|(injection ea_ with ea_;subst ea_));subst ec_;clear en_))
        have GB12:=qAm gb12;have GG12:=qAm HG12;clear gb12 gl12 HG12
        (first|simp only [add_plain] at hx342_0|skip)
        obtain⟨hx12_0,hf12_0⟩:=Kd.R_celln 0 HO_3.1 (x15_1:Int) p12 q12;replace p12:=eq_true p12;replace q12:=eq_true q12;have HP14:=Kd.R_putg HO_3.1 (x15_1:Int) (Int.tmod (wrap64 ((rd x3_1 x15_1)*a0_2)) a0_1);go_wp2_with (first|((with_reducible refine gate_store (t:=2) (p:=31) rfl ?_);refine store_event (t:=2) (p:=31) (v:=?vo_w15) (w1:=(wr.setCell ⟨go12,(x15_1:Int).toNat,none⟩ (.int .i64 (Int.tmod (wrap64 ((rd x3_1 x15_1)*a0_2)) a0_1)))) ?hg ?ho ?hn ?hr ?_;(case ho=>rfl);(case hg=>rfl);(case hn=>rfl);(case hr=>first|(go_simp;done)|(go_simp;rfl));intro w15 hw;have hg:wr.grownBy w15 (some go12):=(by rw [hw];exact HP14.2);have hp_:Kd.R (Kd.int .i64) 2 w15 w.heap.size (fun _=>True) (.slice (some ⟨go12,0,none⟩) x3_1.length co6) y343:=(by rw [hw,Ny343.1];exact HP14.1);clear HP14;have n0_:=qAm (hp_);have n1_:=qAm (blk_grown (g:=gb337) (o:=.cells #[.int .i64 a0_0,.int .i64 a0_1,.int .i64 a0_2] 40 (0,0)) qB129 hg (Kd.R_ne HO_3.1 BK337.1 (by decide)));have n2_:=qAm ((by rw [hw];exact below_set (HB.1) GB12.1:Below w.heap.size w w15));clear HO_3;clear BK337;clear HB;have HO_3:=n0_;have BK337:=n1_;have HB:=n2_;clear n0_ n1_ n2_;clear hg hw hp_))
        (try simp only [← hl3_1])
        (first|go_roundg k1|((try simp only [add_plain] at *);go_roundg k1))
        case measure=>have:=HK1.1;omega
        case rel=>exact⟨(y343),(wrap64 (x15_1+1)),qB178,H',⟨by have:=HK1.1;omega⟩,⟨by (try simp only [hl3_1]);(with_reducible repeat(first|apply Kd.R_alloc|apply Kd.R_drewN|apply Kd.R_drew));exact HO_3.1⟩,⟨by (try simp only [hl3_1]);(with_reducible repeat(first|refine blk_drewN ?_ _|refine blk_drew ?_|refine blk_alloc ?_ _));exact BK337.1⟩,⟨by repeat(first|(with_reducible first|exact HB.1|apply below_alloc|apply pw_below_drewN|apply below_drew1|refine below_set ?_ GE337.1)|exact HB.1)⟩⟩
      ·rw [if_neg c10] at H;have c10b0:decide (0<x15_1)=false:=decide_eq_false c10;clear c10;have H':=qAm H;clear H;have p342:0≤(x15_1:Int):=of_decide_eq_true qB177;have q342:x15_1<(x3_1.length:Int):=of_decide_eq_true qB177;obtain⟨ad342,e342,hx342_0⟩:=Kd.at_int (Kd.R_reads' HO_3.1).2.2 x15_1 p342 q342;cases e342
       replace p342:=eq_true p342;replace q342:=eq_true q342;go_wp2
       (try simp only [← hl3_1])
       (first|go_roundg k1|((try simp only [add_plain] at *);go_roundg k1))
       case measure=>have:=HK1.1;omega
       case rel=>exact⟨(x3_1),(wrap64 (x15_1+1)),qB178,H',⟨by have:=HK1.1;omega⟩,⟨by (try simp only [hl3_1]);(with_reducible repeat(first|apply Kd.R_alloc|apply Kd.R_drewN|apply Kd.R_drew));exact HO_3.1⟩,⟨by (try simp only [hl3_1]);(with_reducible repeat(first|refine blk_drewN ?_ _|refine blk_drew ?_|refine blk_alloc ?_ _));exact BK337.1⟩,⟨by repeat(first|(with_reducible first|exact HB.1|apply below_alloc|apply pw_below_drewN|apply below_drew1|refine below_set ?_ GE337.1)|exact HB.1)⟩⟩
     ·rw [if_neg c9] at H;exact absurd H (by simp)
    ·rw [if_neg c8] at H;exact absurd H (by simp)
   ·rw [if_neg c7] at H;have c7b0:decide (x15_1<(t338.length:Int))=false:=decide_eq_false c7;have c7b0_0:=c7b0
    (try rw [hl3_1] at c7b0_0)
    clear c7;obtain rfl:=Option.some.inj H;go_wp2;go_ret;exact⟨_,by first|rfl|(simp [errW_none,errW_some] <;> rfl)|(simp [*,errW_none,errW_some] <;> rfl),by (with_reducible repeat(first|apply Kd.R_alloc|apply Kd.R_drewN|apply Kd.R_drew));exact HO_3.1,by repeat(first|(with_reducible first|exact HB.1|apply below_alloc|apply pw_below_drewN|apply below_drew1|refine below_set ?_ GE337.1)|exact HB.1)⟩

/-! ### slices_Clone_int64_int64: function 141 -/
def slices_Clone_int64_int64.f (l0:List Int):Option (List Int):=if l0.length<17592186044416 then some l0 else none
-- HAND
theorem hcl_info:(Try.prog.info? 2).map (fun i=>(i.zero,i.size,i.bytes))=some (some (.int .i64 0),1,8):=by kernel_rfl
set_option maxHeartbeats 8000000 in
set_option maxRecDepth 100000 in
theorem slices_Clone_int64_int64.calls (A0:Option Addr) (c0:Nat) (l0:List Int) (r:List Int) (w:World) (hr0:Kd.C (Kd.int .i64) w A0 l0.length l0) (hc0:l0.length≤c0) (h:slices_Clone_int64_int64.f l0=some r):
  Calls Try.prog 141 #[.slice A0 l0.length c0] w fun e w'=>∃v0_:Value,e=.returned (v0_)∧Kd.R (Kd.int .i64) 2 w' w.heap.size (fun _=>True) v0_ r∧Below w.heap.size w w':=by
 have HR0:=qAm hr0;have HC0:=qAm hc0;have HB:=qAm (Below.refl w.heap.size w);unfold slices_Clone_int64_int64.f at h
 by_cases c2:l0.length<17592186044416
 ·rw [if_pos c2] at h;obtain rfl:=Option.some.inj h;clear h;have LMc2:=qAm c2;clear c2 hr0 hc0;cases A0 with
  |none=>
   have hz:l0=[]:=by
    rcases Nat.eq_zero_or_pos l0.length with hz|hz
    ·exact List.eq_nil_of_length_eq_zero hz
    ·obtain⟨ad,e,_⟩:=HR0.1.2.2 hz;cases e
   subst hz;have hn:=fun(W:World) (n c n' c':Nat)=>Lib.run_eql_slice_nil (P:=Try.prog) W 22 2 none n c n' c' Try.underlying22
   go_enter Try.func141,Try.ntmps141;go_wp2;go_ret;exact⟨.slice none 0 0,rfl,Kd.R_nil _ _ _ _ _,Below.refl _ _⟩
  |some ad=>
   have hn:=fun(W:World) (n c n' c':Nat)=>Lib.run_eql_slice_nil (P:=Try.prog) W 22 2 (some ad) n c n' c' Try.underlying22
   obtain⟨y105,hy105⟩:∃y_:List Int,y_=([]:List Int):=⟨_,rfl⟩
   obtain⟨y108,hy108⟩:∃y_:List Int,y_=(y105 ++ l0):=⟨_,rfl⟩
   have Ny105:=qAm hy105;have Ny108:=qAm hy108;have N3:=qAm (show y108=l0 by rw [hy108,hy105];rfl);have LM2:=qAm (show y105.length+l0.length<17592186044416 by rw [hy105];simpa using LMc2.1);clear hy105 hy108;go_enter Try.func141,Try.ntmps141;go_wp2_with (first|((with_reducible refine gate_dst (N:=5) rfl ?_);refine Kd.R_lit (Kd.int .i64) _ 2 ?hg (N:=5) ?hd (xs:=([]:List Int)) (inner:=[]) (ok:=fun _=>True) (okp:=fun _=>True) ?hr ?hp (fun _ hk=>hk) trivial (Below.refl _ _) (Nat.le_refl _) (by simp) ?_;(case hd=>rfl);(case hg=>rfl);(case hr=>first|(go_simp;done)|(go_simp;rfl));(case hp=>exact(Reps.none _ _));intro v106 w3 ho4 hb hg_ hnew_;clear hg_ hnew_;(first|rw [← Ny105.1] at ho4|(simp only [Int.reduceToNat] at ho4;rw [← Ny105.1] at ho4));have n0_:=qAm (Kd.R_lower ho4 (below_size qB95));have n1_:=qAm (below_step qB95 hb);clear HB;have HO107:=n0_;have HB:=n1_;clear n0_ n1_;clear hb ho4)|((with_reducible refine gate_builtin (b:=.append) (xs:=#[.tmp 5,.tmp 6]) rfl ?_);at_builtin;refine Kd.R_append_rows (Kd.int .i64) (w0:=w) w.heap.size rfl (.tmp 5) (.tmp 6) 22 2 (.int .i64 0) 8 rfl Try.underlying22 hcl_info rfl (by decide) (by omega) v106 y105 l0 _ _ _ (fun _=>True) (fun _=>False) rfl rfl ?aO ?aR (fun _ _ h=>h) (fun _ h=>h.elim) ?aF ?aB ?aS ?aL ?_;(case aR=>repeat(first|exact(Kd.C_below HR0.1 HB.1)|(with_reducible refine Kd.C_alloc ?_ _)|(with_reducible refine Kd.C_drewN ?_ _)|(with_reducible refine Kd.C_drew ?_)));(case aB=>exact qB95);(case aF=>exact(fun _ _=>trivial));(case aO=>exact(by (with_reducible repeat(first|apply Kd.R_alloc|apply Kd.R_drewN|apply Kd.R_drew));exact HO107.1));(case aS=>exact(below_size qB95));(case aL=>have:=LM2.1;omega);intro v109 w5 ho hb hg hat;rw [← Ny108.1,N3.1] at ho;have n0_:=qAm (hb);have n1_:=qAm (ho);clear HB;clear HO107;have HB:=n0_;have HO110:=n1_;clear n0_ n1_;clear ho hb hg hat));go_ret;exact⟨_,by first|rfl|(simp;done),by (with_reducible repeat(first|apply Kd.R_alloc|apply Kd.R_drewN|apply Kd.R_drew));exact HO110.1,by repeat(first|(with_reducible first|exact HB.1|apply below_alloc|apply pw_below_drewN|apply below_drew1)|exact HB.1)⟩
 ·rw [if_neg c2] at h;cases h

/-! ### impl_quotient: function 133 -/
mutual
def impl_quotient.l0:Nat→List Int→List Int→List Int→Int→Option (List Int)
 |0,_,_,_,_=>none
 |k+1,x0,x1,x5,x6=>if x6≥0 then (if 0≤(wrap64 ((wrap64 (x6+(x1.length:Int))) - 1)) then (if (wrap64 ((wrap64 (x6+(x1.length:Int))) - 1))<(x0.length:Int) then (if 0≤x6 then (if x6<(x5.length:Int) then (impl_quotient.l1 k x0 x1 (x5.set (x6:Int).toNat (rd x0 (wrap64 ((wrap64 (x6+(x1.length:Int))) - 1)))) x6 x1 (x1.length:Int) 0) else (none)) else (none)) else (none)) else (none)) else (some x5)
def impl_quotient.l1:Nat→List Int→List Int→List Int→Int→List Int→Int→Int→Option (List Int)
 |0,_,_,_,_,_,_,_=>none
 |k+1,x0,x1,x5,x6,x36,x37,x38=>if x38<x37 then (if 0≤x38 then (if x38<(x36.length:Int) then (if 0≤(wrap64 (x6+x38)) then (if (wrap64 (x6+x38))<(x0.length:Int) then (if 0≤x6 then (if x6<(x5.length:Int) then (impl_quotient.l1 k (x0.set ((wrap64 (x6+x38)):Int).toNat (wrap64 ((rd x0 (wrap64 (x6+x38))) - (wrap64 ((rd x5 x6)*(rd x36 x38)))))) x1 x5 x6 x36 x37 (wrap64 (x38+1))) else (none)) else (none)) else (none)) else (none)) else (none)) else (none)) else (impl_quotient.l0 k x0 x1 x5 (wrap64 (x6 - 1)))
end
def impl_quotient.f (k:Nat) (l0:List Int) (l1:List Int):Option (List Int):=(slices_Clone_int64_int64.f l0).bind fun t347=>(if 0≤(wrap64 ((wrap64 ((t347.length:Int) - (l1.length:Int)))+1)) then (if (wrap64 ((wrap64 ((t347.length:Int) - (l1.length:Int)))+1):Int).toNat≤35184372088832 then ((some (List.replicate (wrap64 ((wrap64 ((t347.length:Int) - (l1.length:Int)))+1):Int).toNat 0:List Int)).bind fun y350=>(impl_quotient.l0 k t347 l1 y350 (wrap64 ((y350.length:Int) - 1)))) else (none)) else (none))
theorem impl_quotient.mono_l:∀k,(∀y0 y1 y2 y3,LeO (impl_quotient.l0 k y0 y1 y2 y3) (impl_quotient.l0 (k+1) y0 y1 y2 y3))∧(∀y0 y1 y2 y3 y4 y5 y6,LeO (impl_quotient.l1 k y0 y1 y2 y3 y4 y5 y6) (impl_quotient.l1 (k+1) y0 y1 y2 y3 y4 y5 y6))
 |0=>⟨fun _ _ _ _ r h=>by simp [impl_quotient.l0] at h,fun _ _ _ _ _ _ _ r h=>by simp [impl_quotient.l1] at h⟩
 |k+1=>by
  obtain⟨ih0,ih1⟩:=impl_quotient.mono_l k;refine⟨?_,?_⟩
  ·intro y0 y1 y2 y3;unfold impl_quotient.l0;repeat' first
   |(with_reducible exact ih0 _ _ _ _)
   |(with_reducible exact ih1 _ _ _ _ _ _ _)
   |(with_reducible exact LeO.refl _)
   |(with_reducible exact LeO.none _)
   |(with_reducible refine LeO.ite ?_ ?_)
   |(with_reducible refine LeO.bind ?_ (fun _=>?_))
   |exact ih0 _ _ _ _
   |exact ih1 _ _ _ _ _ _ _
   |exact LeO.none _
   |refine LeO.ite ?_ ?_
   |refine LeO.bind ?_ (fun _=>?_)
  ·intro y0 y1 y2 y3 y4 y5 y6;unfold impl_quotient.l1;repeat' first
   |(with_reducible exact ih0 _ _ _ _)
   |(with_reducible exact ih1 _ _ _ _ _ _ _)
   |(with_reducible exact LeO.refl _)
   |(with_reducible exact LeO.none _)
   |(with_reducible refine LeO.ite ?_ ?_)
   |(with_reducible refine LeO.bind ?_ (fun _=>?_))
   |exact ih0 _ _ _ _
   |exact ih1 _ _ _ _ _ _ _
   |exact LeO.none _
   |refine LeO.ite ?_ ?_
   |refine LeO.bind ?_ (fun _=>?_)
theorem impl_quotient.mono:∀a0 a1 k,LeO (impl_quotient.f k a0 a1) (impl_quotient.f (k+1) a0 a1):=by
 intro a0 a1 k;obtain⟨ih0,ih1⟩:=impl_quotient.mono_l k;unfold impl_quotient.f;repeat' first
   |(with_reducible exact ih0 _ _ _ _)
   |(with_reducible exact ih1 _ _ _ _ _ _ _)
   |(with_reducible exact LeO.refl _)
   |(with_reducible exact LeO.none _)
   |(with_reducible refine LeO.ite ?_ ?_)
   |(with_reducible refine LeO.bind ?_ (fun _=>?_))
   |exact ih0 _ _ _ _
   |exact ih1 _ _ _ _ _ _ _
   |exact LeO.none _
   |refine LeO.ite ?_ ?_
   |refine LeO.bind ?_ (fun _=>?_)
def impl_quotient.T10:Bool×List (List Nat×List Nat):=(true,[([],[]),([],[]),([],[]),([1,2],[1,2]),([0,3],[0,3]),([4],[4]),([],[]),([],[]),([6,7],[6,7]),([8],[8]),([],[]),([9,10],[9,10]),([5,11],[5,11]),([0,3,0,1,2,3,4,5,6,7,8,9,10,11,12],[0,3]),([13,12,0,1,2,3,4,5,6,7,8,9,10,11,12],[12,13])])
def impl_quotient.B10:List Nat:=[0,0,0,6,15,31,0,0,192,448,0,1984,4095,8191,16383]
theorem impl_quotient.tab10:rtab .any (opsOf Try.f133 10)=impl_quotient.T10:=by kernel_rfl
theorem impl_quotient.bits10:waitsOk impl_quotient.T10.2 impl_quotient.B10=true:=by kernel_rfl
set_option maxHeartbeats 8000000 in
set_option maxRecDepth 100000 in
theorem impl_quotient.calls (k:Nat) (A0:Option Addr) (c0:Nat) (l0:List Int) (A1:Option Addr) (c1:Nat) (l1:List Int) (r:List Int) (w:World) (hr0:Kd.C (Kd.int .i64) w A0 l0.length l0) (hc0:l0.length≤c0) (hr1:Kd.C (Kd.int .i64) w A1 l1.length l1) (hc1:l1.length≤c1) (h:impl_quotient.f k l0 l1=some r):
  Calls Try.prog 133 #[.slice A0 l0.length c0,.slice A1 l1.length c1] w fun e w'=>∃v0_:Value,e=.returned (v0_)∧Kd.R (Kd.int .i64) 2 w' w.heap.size (fun _=>True) v0_ r∧Below w.heap.size w w':=by
 have HR0:=qAm hr0;have HC0:=qAm hc0;clear hr0 hc0;have HR1:=qAm hr1;have HC1:=qAm hc1;clear hr1 hc1;have HB:=qAm (Below.refl w.heap.size w);have H:((slices_Clone_int64_int64.f l0).bind fun t347=>(if 0≤(wrap64 ((wrap64 ((t347.length:Int) - (l1.length:Int)))+1)) then (if (wrap64 ((wrap64 ((t347.length:Int) - (l1.length:Int)))+1):Int).toNat≤35184372088832 then ((some (List.replicate (wrap64 ((wrap64 ((t347.length:Int) - (l1.length:Int)))+1):Int).toNat 0:List Int)).bind fun y350=>(impl_quotient.l0 k t347 l1 y350 (wrap64 ((y350.length:Int) - 1)))) else (none)) else (none)))=some r:=h;clear h;replace H:=qOb H;obtain⟨t347,A30,H⟩:=H;replace H:(if 0≤(wrap64 ((wrap64 ((t347.length:Int) - (l1.length:Int)))+1)) then (if (wrap64 ((wrap64 ((t347.length:Int) - (l1.length:Int)))+1):Int).toNat≤35184372088832 then ((some (List.replicate (wrap64 ((wrap64 ((t347.length:Int) - (l1.length:Int)))+1):Int).toNat 0:List Int)).bind fun y350=>(impl_quotient.l0 k t347 l1 y350 (wrap64 ((y350.length:Int) - 1)))) else (none)) else (none))=some r:=H;have A3:=qAm A30;clear A30;obtain⟨ji4,hji4⟩:∃j_:Int,(wrap64 ((wrap64 ((t347.length:Int) - (l1.length:Int)))+1))=j_:=⟨_,rfl⟩
 replace H:(if 0≤(ji4) then (if (ji4:Int).toNat≤35184372088832 then ((some (List.replicate (ji4:Int).toNat 0:List Int)).bind fun y350=>(impl_quotient.l0 k t347 l1 y350 (wrap64 ((y350.length:Int) - 1)))) else (none)) else (none))=some r:=by first|(rw [hji4] at H;exact H)|(simp only [hji4] at H ⊢;exact H)
 (try rw [hji4] at A3)
 have hji4w:(IntKind.i64.wrap ((wrap64 ((t347.length:Int) - (l1.length:Int)))+1))=ji4:=(i64_w _).trans hji4
 by_cases c5:0≤(ji4)
 ·rw [if_pos c5] at H;have c5b0:=eq_true c5;have c5b1:decide (0≤(ji4))=true:=decide_eq_true c5;clear c5
  by_cases c6:(ji4:Int).toNat≤35184372088832
  ·rw [if_pos c6] at H;have c6b0:=eq_true c6;have c6b1:decide ((ji4:Int).toNat≤35184372088832)=true:=decide_eq_true c6;clear c6;obtain⟨y350,hy350⟩:∃y_:List Int,y_=(List.replicate (ji4:Int).toNat 0):=⟨_,rfl⟩
   replace H:(impl_quotient.l0 k t347 l1 y350 (wrap64 ((y350.length:Int) - 1)))=some r:=by first|(rw [hy350];with_reducible exact H)|(have H2_:=(Option.bind_some _ _).symm.trans H;rw [hy350];with_reducible exact H2_)|(have H2_:=(Option.bind_some _ _).symm.trans H;with_reducible exact H2_)|with_reducible exact H|(rw [hy350];exact H)|exact H
   have Ny350:=qAm hy350;clear hy350;have H':=qAm H;clear H;go_enter Try.func133,Try.ntmps133;go_wp2_with (first|((with_reducible refine gate_callee (f:=141) rfl ?_);refine goesL_ (some 10) rfl rfl Try.func141 (by kernel_rfl) rfl #[.slice A0 l0.length c0] rfl qB90 ?_;(with_reducible refine(slices_Clone_int64_int64.calls _ _ l0 t347 _ ?side1 ?side2 A3.1).mono ?_);(case side1=>repeat(first|exact HR0.1|(with_reducible refine Kd.C_alloc ?_ _)|(with_reducible refine Kd.C_drewN ?_ _)|(with_reducible refine Kd.C_drew ?_)));(case side2=>exact HC0.1);rintro e w7 ⟨v348,rfl,ho0,hb⟩;refine⟨_,rfl,?_⟩;have n0_:=qAm (Kd.R_lower ho0 (below_size qB95));have n1_:=qAm (below_step qB95 hb);clear HB;have HO349:=n0_;have HB:=n1_;clear n0_ n1_;(try clear hb);(try clear hb2);(try clear hk);(try clear hi);(try clear ho0);obtain⟨Ao8,co8,eo8⟩:=Kd.R_slice HO349.1;subst eo8)|((with_reducible refine gate_dst (N:=17) rfl ?_);refine Kd.R_make (Kd.int .i64) _ 2 rfl (N:=17) rfl 22 _ _ rfl ji4 rfl rfl Try.underlying22 (.int .i64 0) 8 info2 rfl (by decide) (by omega) 0 (ok:=fun _=>True) (okp:=fun _=>True) rfl (fun _ hk=>hk) trivial (of_decide_eq_true qB177) (Nat.le_trans (Nat.mul_le_mul_right _ (of_decide_eq_true qB177:ji4.toNat≤35184372088832)) (by omega)) (Below.refl _ _) (Nat.le_refl _) ?_;intro v351 w9 ho10 hb hg_ hnew_;clear hg_ hnew_;(first|rw [← Ny350.1] at ho10|(simp only [Int.reduceToNat] at ho10;rw [← Ny350.1] at ho10));have n0_:=qAm (Kd.R_elder' qB161 (Kd.R_base ho10) hb);have n1_:=qAm (Kd.R_lower (Kd.R_new' ho10 (Kd.R_lt qB161)) (below_size qB95));have n2_:=qAm (below_step qB95 hb);clear HO349;clear HB;have HO349:=n0_;have HO352:=n1_;have HB:=n2_;clear n0_ n1_ n2_;clear hb ho10;obtain⟨Ao11,co11,eo11⟩:=Kd.R_slice HO352.1;subst eo11));try simp only [Act.put,qSa,qSc,qSb]
   go_loopg [6] k (fun kq v6 w'=>∃(x0_1:List Int) (x5_1:List Int) (x6_1:Int),v6=.int .i64 x6_1∧Aside0 (impl_quotient.l0 kq x0_1 l1 x5_1 x6_1=some r)∧Aside0 (kq≤k)∧Aside0 (Kd.R (Kd.int .i64) 2 w' w.heap.size (fun k_=>some k_≠((.slice Ao11 y350.length co11):Value).ownBlock) (.slice Ao8 t347.length co8) x0_1)∧Aside0 (Kd.R (Kd.int .i64) 2 w' w.heap.size (fun k_=>some k_≠((.slice Ao8 t347.length co8):Value).ownBlock) (.slice Ao11 y350.length co11) x5_1)∧Aside0 (Below w.heap.size w w'))
   case atStart=>exact⟨(t347),(y350),(wrap64 ((y350.length:Int) - 1)),qB178,H',⟨Nat.le_refl _⟩,⟨by (with_reducible repeat(first|apply Kd.R_alloc|apply Kd.R_drewN|apply Kd.R_drew));exact Kd.R_mono HO349.1 (fun _ hk=>hk.2)⟩,⟨by (with_reducible repeat(first|apply Kd.R_alloc|apply Kd.R_drewN|apply Kd.R_drew));exact Kd.R_mono HO352.1 (fun _ hk=>hk.2)⟩,⟨by repeat(first|(with_reducible first|exact HB.1|apply below_alloc|apply pw_below_drewN|apply below_drew1)|exact HB.1)⟩⟩
   case round=>
    clear H';try clear c1
    try clear p2
    try clear c5
    try clear c5b0
    try clear c5b1
    try clear c6
    try clear c6b0
    try clear c6b1
    try clear p6
    obtain⟨x0_1,x5_1,x6_1,rfl,HA,HK1,HO_0,HO_5,HB⟩:=hrel;have hl0_1:=(Kd.R_reads' HO_0.1).1;rw [hl0_1] at HO_0
    (try simp only [hl0_1])
    (try simp only [hl0_1] at HO_5)
    have hl5_1:=(Kd.R_reads' HO_5.1).1;rw [hl5_1] at HO_5
    (try simp only [hl5_1])
    (try simp only [hl5_1] at HO_0)
    cases gk with
    |zero=>exact absurd HA.1 (by simp [impl_quotient.l0])
    |succ k1=>
     have H:=HA.1;clear HA;simp only [impl_quotient.l0] at H
     by_cases c12:x6_1≥0
     ·rw [if_pos c12] at H;have c12b0:decide (0≤x6_1)=true:=decide_eq_true c12;clear c12;obtain⟨ji13,hji13⟩:∃j_:Int,(wrap64 ((wrap64 (x6_1+(l1.length:Int))) - 1))=j_:=⟨_,rfl⟩
      replace H:(if 0≤(ji13) then (if (ji13)<(x0_1.length:Int) then (if 0≤x6_1 then (if x6_1<(x5_1.length:Int) then (impl_quotient.l1 k1 x0_1 l1 (x5_1.set (x6_1:Int).toNat (rd x0_1 (ji13))) x6_1 l1 (l1.length:Int) 0) else (none)) else (none)) else (none)) else (none))=some r:=by first|(rw [hji13] at H;exact H)|(simp only [hji13] at H ⊢;exact H)
      have hji13w:(IntKind.i64.wrap ((wrap64 (x6_1+(l1.length:Int))) - 1))=ji13:=(i64_w _).trans hji13
      by_cases c14:0≤(ji13)
      ·rw [if_pos c14] at H;have c14b0:decide (0≤(ji13))=true:=decide_eq_true c14;clear c14
       by_cases c15:(ji13)<(x0_1.length:Int)
       ·rw [if_pos c15] at H;have c15b0:decide ((ji13)<(x0_1.length:Int))=true:=decide_eq_true c15;clear c15
        by_cases c16:0≤x6_1
        ·rw [if_pos c16] at H;have c16b0:decide (0≤x6_1)=true:=decide_eq_true c16;clear c16
         by_cases c17:x6_1<(x5_1.length:Int)
         ·rw [if_pos c17] at H;have c17b0:decide (x6_1<(x5_1.length:Int))=true:=decide_eq_true c17;clear c17;obtain⟨y354,hy354⟩:∃y_:List Int,y_=(x5_1.set (x6_1:Int).toNat (rd x0_1 (ji13))):=⟨_,rfl⟩
          replace H:(impl_quotient.l1 k1 x0_1 l1 y354 x6_1 l1 (l1.length:Int) 0)=some r:=by first|(rw [hy354];with_reducible exact H)|(have H2_:=(Option.bind_some _ _).symm.trans H;rw [hy354];with_reducible exact H2_)|(have H2_:=(Option.bind_some _ _).symm.trans H;with_reducible exact H2_)|with_reducible exact H|(rw [hy354];exact H)|exact H
          have Ny354:=qAm hy354;clear hy354;have H':=qAm H;clear H;have p353:0≤((ji13):Int):=of_decide_eq_true qB177;have q353:(ji13)<(x0_1.length:Int):=of_decide_eq_true qB177;obtain⟨ad353,e353,hx353_0⟩:=Kd.at_int (Kd.R_reads' HO_0.1).2.2 (ji13) p353 q353;cases e353
          replace p353:=eq_true p353;replace q353:=eq_true q353;have p18:0≤(x6_1:Int):=of_decide_eq_true qB177;have q18:(x6_1:Int)<((x5_1.length:Int):Int):=of_decide_eq_true qB177;obtain⟨go18,co18,eo18,gb18,gl18,cl18,HG18⟩:=Kd.R_form HO_5.1 (by omega)
          (first|cases eo18|(injection eo18 with ea_ en_ ec_;(first|subst ea_|(injection ea_ with ea_;subst ea_));subst ec_;clear en_))
          have GB18:=qAm gb18;have GG18:=qAm HG18;clear gb18 gl18 HG18;obtain⟨hx18_0,hf18_0⟩:=Kd.R_celln 0 HO_5.1 (x6_1:Int) p18 q18;replace p18:=eq_true p18;replace q18:=eq_true q18;have HP19:=Kd.R_putg HO_5.1 (x6_1:Int) (rd x0_1 (ji13));go_wp2_with (first|((with_reducible refine gate_store (t:=2) (p:=35) rfl ?_);refine store_event (t:=2) (p:=35) (v:=?vo_w20) (w1:=(wr.setCell ⟨go18,(x6_1:Int).toNat,none⟩ (.int .i64 (rd x0_1 (ji13))))) ?hg ?ho ?hn ?hr ?_;(case ho=>rfl);(case hg=>rfl);(case hn=>rfl);(case hr=>first|(go_simp;done)|(go_simp;rfl));intro w20 hw;have hg:wr.grownBy w20 (some go18):=(by rw [hw];exact HP19.2);have hp_:Kd.R (Kd.int .i64) 2 w20 w.heap.size (fun k_=>some k_≠(.slice (some ad353) x0_1.length co8:Value).ownBlock) (.slice (some ⟨go18,0,none⟩) x5_1.length co11) y354:=(by rw [hw,Ny354.1];exact HP19.1);clear HP19;have n0_:=qAm (Kd.R_after (v:=(.slice (some ⟨go18,0,none⟩) x5_1.length co11)) (v1:=(.slice (some ⟨go18,0,none⟩) x5_1.length co11)) (ok:=(fun _=>True)) (by (with_reducible repeat(first|apply Kd.R_alloc|apply Kd.R_drewN|apply Kd.R_drew));exact Kd.R_mono HO_0.1 (fun _ hk=>⟨trivial,hk⟩)) hg (.inl rfl));have n1_:=qAm (hp_);have n2_:=qAm ((by rw [hw];exact below_set (HB.1) GB18.1:Below w.heap.size w w20));clear HO_0;clear HO_5;clear HB;have HO_0:=n0_;have HO_5:=n1_;have HB:=n2_;clear n0_ n1_ n2_;clear hg hw hp_));try simp only [Act.put,qSa,qSc,qSb]
          go_loopg [38] k1 (fun kq v38 w'=>∃(x0_2:List Int) (x38_2:Int),v38=.int .i64 x38_2∧Aside0 (impl_quotient.l1 kq x0_2 l1 y354 x6_1 l1 (l1.length:Int) x38_2=some r)∧Aside0 (kq≤k1)∧Aside0 (Kd.R (Kd.int .i64) 2 w' w.heap.size (fun k_=>some k_≠((.slice (some ⟨go18,0,none⟩) x5_1.length co11):Value).ownBlock) (.slice (some ad353) x0_1.length co8) x0_2)∧Aside0 (Kd.R (Kd.int .i64) 2 w' w.heap.size (fun k_=>some k_≠((.slice (some ad353) x0_1.length co8):Value).ownBlock) (.slice (some ⟨go18,0,none⟩) x5_1.length co11) y354)∧Aside0 (Below w.heap.size w w'))
          case atStart=>exact⟨(x0_1),(0),qB178,H',⟨Nat.le_refl _⟩,⟨by (try simp only [hl0_1]);(try simp only [hl5_1]);(with_reducible repeat(first|apply Kd.R_alloc|apply Kd.R_drewN|apply Kd.R_drew));exact Kd.R_mono HO_0.1 (fun _ hk=>hk.2)⟩,⟨by (try simp only [hl0_1]);(try simp only [hl5_1]);(with_reducible repeat(first|apply Kd.R_alloc|apply Kd.R_drewN|apply Kd.R_drew));exact HO_5.1⟩,⟨by repeat(first|(with_reducible first|exact HB.1|apply below_alloc|apply pw_below_drewN|apply below_drew1)|exact HB.1)⟩⟩
          case round=>
           clear H';try clear c1
           try clear p1
           try clear q1
           try clear hx1
           try clear p2
           try clear p3
           try clear q3
           try clear hx3
           try clear c5
           try clear c5b0
           try clear c5b1
           try clear c6
           try clear c6b0
           try clear c6b1
           try clear p6
           try clear c12
           try clear c12b0
           try clear c13
           try clear c14
           try clear c14b0
           try clear c15
           try clear c15b0
           try clear c16
           try clear c16b0
           try clear c17
           try clear c17b0
           try clear p18
           try clear q18
           try clear hx18
           try clear hf18
           try clear hx18_0
           try clear hx353_0
           try clear p18
           try clear p2
           try clear p353
           try clear p6
           try clear q18
           try clear q353
           obtain⟨x0_2,x38_2,rfl,HA,HK2,HO_0,HO_5,HB⟩:=hrel;have hl0_2:=(Kd.R_reads' HO_0.1).1;rw [hl0_2] at HO_0
           (try simp only [hl0_2])
           (try simp only [hl0_2] at HO_5)
           have hl5_2:=(Kd.R_reads' HO_5.1).1;rw [hl5_2] at HO_5
           (try simp only [hl5_2])
           (try simp only [hl5_2] at HO_0)
           cases gk with
           |zero=>exact absurd HA.1 (by simp [impl_quotient.l1])
           |succ k2=>
            have H:=HA.1;clear HA;simp only [impl_quotient.l1] at H
            by_cases c21:x38_2<(l1.length:Int)
            ·rw [if_pos c21] at H;have c21b0:decide (x38_2<(l1.length:Int))=true:=decide_eq_true c21;clear c21
             by_cases c22:0≤x38_2
             ·rw [if_pos c22] at H;have c22b0:decide (0≤x38_2)=true:=decide_eq_true c22;clear c22
              by_cases c23:x38_2<(l1.length:Int)
              ·rw [if_pos c23] at H;have c23b0:decide (x38_2<(l1.length:Int))=true:=decide_eq_true c23;clear c23;obtain⟨ji24,hji24⟩:∃j_:Int,(wrap64 (x6_1+x38_2))=j_:=⟨_,rfl⟩
               replace H:(if 0≤(ji24) then (if (ji24)<(x0_2.length:Int) then (if 0≤x6_1 then (if x6_1<(y354.length:Int) then (impl_quotient.l1 k2 (x0_2.set ((ji24):Int).toNat (wrap64 ((rd x0_2 (ji24)) - (wrap64 ((rd y354 x6_1)*(rd l1 x38_2)))))) l1 y354 x6_1 l1 (l1.length:Int) (wrap64 (x38_2+1))) else (none)) else (none)) else (none)) else (none))=some r:=by first|(rw [hji24] at H;exact H)|(simp only [hji24] at H ⊢;exact H)
               have hji24w:(IntKind.i64.wrap (x6_1+x38_2))=ji24:=(i64_w _).trans hji24
               by_cases c25:0≤(ji24)
               ·rw [if_pos c25] at H;have c25b0:decide (0≤(ji24))=true:=decide_eq_true c25;clear c25
                by_cases c26:(ji24)<(x0_2.length:Int)
                ·rw [if_pos c26] at H;have c26b0:decide ((ji24)<(x0_2.length:Int))=true:=decide_eq_true c26;clear c26
                 by_cases c27:0≤x6_1
                 ·rw [if_pos c27] at H;have c27b0:decide (0≤x6_1)=true:=decide_eq_true c27;clear c27
                  by_cases c28:x6_1<(y354.length:Int)
                  ·rw [if_pos c28] at H;have c28b0:decide (x6_1<(y354.length:Int))=true:=decide_eq_true c28;clear c28;obtain⟨y358,hy358⟩:∃y_:List Int,y_=(x0_2.set ((ji24):Int).toNat (wrap64 ((rd x0_2 (ji24)) - (wrap64 ((rd y354 x6_1)*(rd l1 x38_2)))))):=⟨_,rfl⟩
                   replace H:(impl_quotient.l1 k2 y358 l1 y354 x6_1 l1 (l1.length:Int) (wrap64 (x38_2+1)))=some r:=by first|(rw [hy358];with_reducible exact H)|(have H2_:=(Option.bind_some _ _).symm.trans H;rw [hy358];with_reducible exact H2_)|(have H2_:=(Option.bind_some _ _).symm.trans H;with_reducible exact H2_)|with_reducible exact H|(rw [hy358];exact H)|exact H
                   have Ny358:=qAm hy358;clear hy358;have H':=qAm H;clear H;have p355:0≤(x38_2:Int):=of_decide_eq_true qB177;have q355:x38_2<(l1.length:Int):=of_decide_eq_true qB177;obtain⟨ad355,e355,hx355_0⟩:=Kd.at_int HR1.1 x38_2 p355 q355;cases e355
                   replace hx355_0:=(HB.1.cell (World.block_lt_of_cell? w _ hx355_0)).trans hx355_0;replace p355:=eq_true p355;replace q355:=eq_true q355;try go_wp2
                   have n0_:=qAm (Kd.R_drew HO_0.1);have n1_:=qAm (Kd.R_drew HO_5.1);have n2_:=qAm (below_drew1 HB.1);clear HO_0 HO_5 HB;have HO_0:=n0_;have HO_5:=n1_;have HB:=n2_;clear n0_ n1_ n2_;have p356:0≤((ji24):Int):=of_decide_eq_true qB177;have q356:(ji24)<(x0_2.length:Int):=of_decide_eq_true qB177;obtain⟨ad356,e356,hx356_0⟩:=Kd.at_int (Kd.R_reads' HO_0.1).2.2 (ji24) p356 q356;obtain rfl:ad353=ad356:=(by injection e356)
                   replace p356:=eq_true p356;replace q356:=eq_true q356;have p357:0≤(x6_1:Int):=of_decide_eq_true qB177;have q357:x6_1<(y354.length:Int):=of_decide_eq_true qB177;obtain⟨ad357,e357,hx357_0⟩:=Kd.at_int (Kd.R_reads' HO_5.1).2.2 x6_1 p357 q357;obtain rfl:(⟨go18,0,none⟩:Addr)=ad357:=(by injection e357)
                   (first|simp only [add_plain] at hx357_0|simp only [add_at] at hx357_0|simp only [Addr.add,Nat.zero_add] at hx357_0|skip)
                   replace p357:=eq_true p357;replace q357:=eq_true q357;have p29:0≤((ji24):Int):=of_decide_eq_true qB177;have q29:((ji24):Int)<((x0_2.length:Int):Int):=of_decide_eq_true qB177;obtain⟨go29,co29,eo29,gb29,gl29,cl29,HG29⟩:=Kd.R_form HO_0.1 (by omega)
                   (first|cases eo29|(injection eo29 with ea_ en_ ec_;(first|subst ea_|(injection ea_ with ea_;subst ea_));subst ec_;clear en_))
                   have GB29:=qAm gb29;have GG29:=qAm HG29;clear gb29 gl29 HG29
                   (first|simp only [add_plain] at hx353_0|skip)
                   (first|simp only [add_plain] at hx356_0|skip)
                   obtain⟨hx29_0,hf29_0⟩:=Kd.R_celln 0 HO_0.1 ((ji24):Int) p29 q29;replace p29:=eq_true p29;replace q29:=eq_true q29;have HP31:=Kd.R_putn HO_0.1 ((ji24):Int) (wrap64 ((rd x0_2 (ji24)) - (wrap64 ((rd y354 x6_1)*(rd l1 x38_2)))));rw [← Ny358.1] at HP31;have HQ31:=qAm HP31;clear HP31;refine start_ (n:=15) (S:=fun w'=>w'.cell? ⟨go29,((ji24)).toNat,none⟩=some (.int .i64 (rd x0_2 (ji24)))∧w'.cell? ⟨go18,(x6_1).toNat,none⟩=some (.int .i64 (rd y354 x6_1))) (ds:=[14]) #[false,false,false,false,false,false,false,false,false,false,false,false,false,false,false] (by kernel_rfl) rfl rfl ⟨hx356_0,hx357_0⟩ (fun hHeld=>?_);refine with_tabW impl_quotient.tab10 impl_quotient.bits10 (fun HT_ HW_=>?_)
                   (first|generalize wr.drew=w30 at HO_0 HO_5 HB GG29 HQ31 hf29_0 hx29_0 hx353_0 hx356_0 hx357_0 hHeld ⊢|generalize wr.drew=w30 at HO_0 HO_5 HB GG29 HQ31 hf29_0 hx29_0 hx356_0 hx357_0 hHeld ⊢)
                   refine pure_ (i:=0) (N:=some 43) (v:=?_) (a':=?_) #[true,false,false,false,false,false,false,false,false,false,false,false,false,false,false] rfl rfl (any_of HT_.1 (by kernel_rfl)) (fun _ _ _ h=>h) (Or.inl ⟨by rfl,?_⟩) ?_ ?_;rotate_left
                   ·intro w';go_simp;with_reducible rfl
                   rotate_left
                   ·simp only [Act.put,qSa,qSb,qSc,i64_w,i32_w];rfl
                   refine pure_ (i:=1) (N:=some 44) (v:=?_) (a':=?_) #[true,true,false,false,false,false,false,false,false,false,false,false,false,false,false] rfl rfl (any_of HT_.1 (by kernel_rfl)) (fun _ _ _ h=>h) (Or.inl ⟨by rfl,?_⟩) ?_ ?_;rotate_left
                   ·intro w';go_simp;with_reducible rfl
                   rotate_left
                   ·simp only [Act.put,qSa,qSb,qSc,i64_w,i32_w];rfl
                   refine pure_ (i:=2) (N:=some 45) (v:=?_) (a':=?_) #[true,true,true,false,false,false,false,false,false,false,false,false,false,false,false] rfl rfl (any_of HT_.1 (by kernel_rfl)) (fun _ _ _ h=>h) (Or.inl ⟨by rfl,?_⟩) ?_ ?_;rotate_left
                   ·intro w';go_simp;with_reducible rfl
                   rotate_left
                   ·simp only [Act.put,qSa,qSb,qSc,i64_w,i32_w];rfl
                   refine pure_ (i:=3) (N:=some 46) (v:=?_) (a':=?_) #[true,true,true,true,false,false,false,false,false,false,false,false,false,false,false] rfl rfl (any_of HT_.1 (by kernel_rfl)) (fun _ _ _ h=>h) (Or.inl ⟨by rfl,?_⟩) ?_ ?_;rotate_left
                   ·intro w';go_simp;with_reducible rfl
                   rotate_left
                   ·simp only [Act.put,qSa,qSb,qSc,i64_w,i32_w];rfl
                   refine pure_ (i:=4) (N:=some 47) (v:=?_) (a':=?_) #[true,true,true,true,true,false,false,false,false,false,false,false,false,false,false] rfl rfl (any_of HT_.1 (by kernel_rfl)) (fun _ _ _ h=>h) (Or.inl ⟨by rfl,?_⟩) ?_ ?_;rotate_left
                   ·intro w';go_simp;with_reducible rfl
                   rotate_left
                   ·simp only [Act.put,qSa,qSb,qSc,i64_w,i32_w];rfl
                   refine pure_ (i:=6) (N:=some 49) (v:=?_) (a':=?_) #[true,true,true,true,true,false,true,false,false,false,false,false,false,false,false] rfl rfl (any_of HT_.1 (by kernel_rfl)) (fun _ _ _ h=>h) (Or.inl ⟨by rfl,?_⟩) ?_ ?_;rotate_left
                   ·intro w';go_simp;with_reducible rfl
                   rotate_left
                   ·simp only [Act.put,qSa,qSb,qSc,i64_w,i32_w];rfl
                   refine pure_ (i:=7) (N:=some 50) (v:=?_) (a':=?_) #[true,true,true,true,true,false,true,true,false,false,false,false,false,false,false] rfl rfl (any_of HT_.1 (by kernel_rfl)) (fun _ _ _ h=>h) (Or.inl ⟨by rfl,?_⟩) ?_ ?_;rotate_left
                   ·intro w';go_simp;with_reducible rfl
                   rotate_left
                   ·simp only [Act.put,qSa,qSb,qSc,i64_w,i32_w];rfl
                   refine pure_ (i:=8) (N:=some 51) (v:=?_) (a':=?_) #[true,true,true,true,true,false,true,true,true,false,false,false,false,false,false] rfl rfl (any_of HT_.1 (by kernel_rfl)) (fun _ _ _ h=>h) (Or.inl ⟨by rfl,?_⟩) ?_ ?_;rotate_left
                   ·intro w';go_simp;with_reducible rfl
                   rotate_left
                   ·simp only [Act.put,qSa,qSb,qSc,i64_w,i32_w];rfl
                   refine pure_ (i:=10) (N:=some 53) (v:=?_) (a':=?_) #[true,true,true,true,true,false,true,true,true,false,true,false,false,false,false] rfl rfl (any_of HT_.1 (by kernel_rfl)) (fun _ _ _ h=>h) (Or.inl ⟨by rfl,?_⟩) ?_ ?_;rotate_left
                   ·intro w';go_simp;with_reducible rfl
                   rotate_left
                   ·simp only [Act.put,qSa,qSb,qSc,i64_w,i32_w];rfl
                   refine take_ (i:=5) (N:=some 48) (v:=?_) (a':=?_) #[true,true,true,true,true,true,true,true,true,false,true,false,false,false,false] rfl rfl (take_ofW HT_.1 HW_.1 (by kernel_rfl)) (fun _ _ _ h=>h) (Or.inl ⟨by rfl,?_⟩) hHeld ?_ ?_;rotate_left
                   ·rintro w' ⟨s0,s1⟩;go_simp;with_reducible rfl
                   rotate_left
                   ·simp only [Act.put,qSa,qSb,qSc,i64_w,i32_w];rfl
                   refine take_ (i:=9) (N:=some 52) (v:=?_) (a':=?_) #[true,true,true,true,true,true,true,true,true,true,true,false,false,false,false] rfl rfl (take_ofW HT_.1 HW_.1 (by kernel_rfl)) (fun _ _ _ h=>h) (Or.inl ⟨by rfl,?_⟩) hHeld ?_ ?_;rotate_left
                   ·rintro w' ⟨s0,s1⟩;go_simp;with_reducible rfl
                   rotate_left
                   ·simp only [Act.put,qSa,qSb,qSc,i64_w,i32_w];rfl
                   refine pure_ (i:=11) (N:=some 54) (v:=?_) (a':=?_) #[true,true,true,true,true,true,true,true,true,true,true,true,false,false,false] rfl rfl (any_of HT_.1 (by kernel_rfl)) (fun _ _ _ h=>h) (Or.inl ⟨by rfl,?_⟩) ?_ ?_;rotate_left
                   ·intro w';go_simp;with_reducible rfl
                   rotate_left
                   ·simp only [Act.put,qSa,qSb,qSc,i64_w,i32_w];rfl
                   refine pure_ (i:=12) (N:=some 55) (v:=?_) (a':=?_) #[true,true,true,true,true,true,true,true,true,true,true,true,true,false,false] rfl rfl (any_of HT_.1 (by kernel_rfl)) (fun _ _ _ h=>h) (Or.inl ⟨by rfl,?_⟩) ?_ ?_;rotate_left
                   ·intro w';go_simp;with_reducible rfl
                   rotate_left
                   ·simp only [Act.put,qSa,qSb,qSc,i64_w,i32_w];rfl
                   refine pure_ (i:=13) (N:=some 56) (v:=?_) (a':=?_) #[true,true,true,true,true,true,true,true,true,true,true,true,true,true,false] rfl rfl (any_of HT_.1 (by kernel_rfl)) (fun _ _ _ h=>h) (Or.inl ⟨by rfl,?_⟩) ?_ ?_;rotate_left
                   ·intro w';go_simp;with_reducible rfl
                   rotate_left
                   ·simp only [Act.put,qSa,qSb,qSc,i64_w,i32_w];rfl
                   refine last_ (i:=14) (N:=none) #[true,true,true,true,true,true,true,true,true,true,true,true,true,true,true] rfl rfl (one_of HT_.1 (by kernel_rfl)) (by decide) (fun K hK=>?_);refine skip_ (w1:=?_) (by rfl) rfl ?_ ?_;rotate_left
                   ·go_simp;rfl
                   refine hK.out _ _ ?_;clear hK K;refine done_ (done_of HT_.1 (by kernel_rfl)) ?_;try go_wp2
                   (try simp only [← hl0_2,← hl5_2])
                   (first|go_roundg k2|((try simp only [add_plain] at *);go_roundg k2))
                   case measure=>have:=HK1.1;have:=HK2.1;omega
                   case rel=>exact⟨(y358),(wrap64 (x38_2+1)),qB178,H',⟨by have:=HK1.1;have:=HK2.1;omega⟩,⟨by (try simp only [hl0_1]);(try simp only [hl5_1]);(try simp only [hl0_2]);(try simp only [hl5_2]);(with_reducible repeat(first|apply Kd.R_alloc|apply Kd.R_drewN|apply Kd.R_drew));exact HQ31.1⟩,⟨by (try simp only [hl0_1]);(try simp only [hl5_1]);(try simp only [hl0_2]);(try simp only [hl5_2]);(with_reducible repeat(first|apply Kd.R_alloc|apply Kd.R_drewN|apply Kd.R_drew));exact Kd.R_mono (Kd.R_far (p:=⟨go29,((ji24):Int).toNat,none⟩) (Kd.R_mono HO_5.1 (fun k_ hk=>(⟨hk,fun e_=>hk (by rw [e_];rfl)⟩:_∧k_≠go29))) (fun _ hk=>hk.2) (.int .i64 (wrap64 ((rd x0_2 (ji24)) - (wrap64 ((rd y354 x6_1)*(rd l1 x38_2))))))) (fun _ hk=>hk.1)⟩,⟨by repeat(first|(with_reducible first|exact HB.1|apply below_alloc|apply pw_below_drewN|apply below_drew1|refine below_set ?_ GB29.1)|exact HB.1)⟩⟩
                  ·rw [if_neg c28] at H;exact absurd H (by simp)
                 ·rw [if_neg c27] at H;exact absurd H (by simp)
                ·rw [if_neg c26] at H;exact absurd H (by simp)
               ·rw [if_neg c25] at H;exact absurd H (by simp)
              ·rw [if_neg c23] at H;exact absurd H (by simp)
             ·rw [if_neg c22] at H;exact absurd H (by simp)
            ·rw [if_neg c21] at H;have c21b0:decide (x38_2<(l1.length:Int))=false:=decide_eq_false c21;have c21b0_0:=c21b0
             (try rw [hl0_1] at c21b0_0)
             have c21b0_1:=c21b0
             (try rw [hl5_1] at c21b0_1)
             have c21b0_2:=c21b0
             (try rw [hl0_2] at c21b0_2)
             have c21b0_3:=c21b0
             (try rw [hl5_2] at c21b0_3)
             clear c21;have H':=qAm H;clear H;go_wp2
             (try simp only [← hl0_1,← hl5_1,← hl0_2,← hl5_2])
             (first|go_roundg k2|((try simp only [add_plain] at *);go_roundg k2))
             case measure=>have:=HK1.1;have:=HK2.1;omega
             case rel=>exact⟨(x0_2),(y354),(wrap64 (x6_1 - 1)),qB178,H',⟨by have:=HK1.1;have:=HK2.1;omega⟩,⟨by (try simp only [hl0_1]);(try simp only [hl5_1]);(try simp only [hl0_2]);(try simp only [hl5_2]);(with_reducible repeat(first|apply Kd.R_alloc|apply Kd.R_drewN|apply Kd.R_drew));exact HO_0.1⟩,⟨by (try simp only [hl0_1]);(try simp only [hl5_1]);(try simp only [hl0_2]);(try simp only [hl5_2]);(with_reducible repeat(first|apply Kd.R_alloc|apply Kd.R_drewN|apply Kd.R_drew));exact HO_5.1⟩,⟨by repeat(first|(with_reducible first|exact HB.1|apply below_alloc|apply pw_below_drewN|apply below_drew1)|exact HB.1)⟩⟩
         ·rw [if_neg c17] at H;exact absurd H (by simp)
        ·rw [if_neg c16] at H;exact absurd H (by simp)
       ·rw [if_neg c15] at H;exact absurd H (by simp)
      ·rw [if_neg c14] at H;exact absurd H (by simp)
     ·rw [if_neg c12] at H;have c12b0:decide (0≤x6_1)=false:=decide_eq_false c12;clear c12;obtain rfl:=Option.some.inj H;go_wp2;go_ret;exact⟨_,by first|rfl|(simp [errW_none,errW_some] <;> rfl)|(simp only [← hji4];first|rfl|(simp [errW_none,errW_some] <;> rfl))|(simp [*,errW_none,errW_some] <;> rfl),by (with_reducible repeat(first|apply Kd.R_alloc|apply Kd.R_drewN|apply Kd.R_drew));exact Kd.R_mono HO_5.1 (fun _ hk=>trivial),by repeat(first|(with_reducible first|exact HB.1|apply below_alloc|apply pw_below_drewN|apply below_drew1)|exact HB.1)⟩
  ·rw [if_neg c6] at H;exact absurd H (by simp)
 ·rw [if_neg c5] at H;exact absurd H (by simp)

end Go.Proofs.Ytefhabkikaadiaa.PFnExactOrthogonalSum
