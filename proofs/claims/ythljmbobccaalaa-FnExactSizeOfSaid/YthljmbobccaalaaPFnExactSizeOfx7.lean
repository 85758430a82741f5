/- The functions that the law reaches, as plain functions, each with the proof that the program comes to it; no condition. Written by a program of this session (wip/mp.py) over the printing of the kit; what is marked HAND is told by hand. -/
import Derived.Test.YthljmbobccaalaaPFnExactSizeOfx0
import Derived.Test.YthljmbobccaalaaPFnExactSizeOfx1
import Derived.Test.YthljmbobccaalaaPFnExactSizeOfx6
namespace Go.Proofs.Ythljmbobccaalaa.PFnExactSizeOf
open Go.RowKit Go.Proofs.YthljmbobccaalaaW.PrintWords Go.Proofs.YthljmbobccaalaaW.PrintLast Go.Proofs.YthljmbobccaalaaW.PrintMore
attribute [local go_sem] max2_int min2_int max_two min_two max_three min_three max_four min_four   -- for this text's walks alone
set_option linter.unusedVariables false
set_option linter.unusedSimpArgs false

/-! ### spec_l01Bar: function 49 -/
def spec_l01Bar.f (k:Nat) (a0_0:Int) (l0_1:List Int):Option (Int×List Int):=(spec_l01Galois.f k a0_0 l0_1 (-1)).bind fun bt244=>(some (bt244.1,bt244.2))
theorem spec_l01Bar.mono:∀a0 a1 k,LeO (spec_l01Bar.f k a0 a1) (spec_l01Bar.f (k+1) a0 a1):=by
 intro a0 a1 k;unfold spec_l01Bar.f;repeat' first
   |(with_reducible exact spec_l01Galois.mono _ _ _ _)
   |(with_reducible exact LeO.refl _)
   |(with_reducible exact LeO.none _)
   |(with_reducible refine LeO.ite ?_ ?_)
   |(with_reducible refine LeO.bind ?_ (fun _=>?_))
   |exact spec_l01Galois.mono _ _ _ _
   |exact LeO.none _
   |refine LeO.ite ?_ ?_
   |refine LeO.bind ?_ (fun _=>?_)
set_option maxHeartbeats 8000000 in
set_option maxRecDepth 100000 in
theorem spec_l01Bar.calls (k:Nat) (a0_0:Int) (A0_1:Option Addr) (c0_1:Nat) (l0_1:List Int) (r1:Int) (r2:List Int) (w:World) (hr0_1:Kd.C (Kd.int .i64) w A0_1 l0_1.length l0_1) (hc0_1:l0_1.length≤c0_1) (h:spec_l01Bar.f k a0_0 l0_1=some (r1,r2)):
  Calls Try.prog 49 #[.agg #[.int .i64 a0_0,.slice A0_1 l0_1.length c0_1]] w fun e w'=>∃v1_:Value,e=.returned (.agg #[.int .i64 r1,v1_])∧Kd.R (Kd.int .i64) 2 w' w.heap.size (fun _=>True) v1_ r2∧Below w.heap.size w w':=by
 have hu26:=Try.underlying26;have HR0_1:=qAm hr0_1;have HC0_1:=qAm hc0_1;clear hr0_1 hc0_1;have HB:=qAm (Below.refl w.heap.size w);have H:((spec_l01Galois.f k a0_0 l0_1 (-1)).bind fun bt244=>(some (bt244.1,bt244.2)))=some (r1,r2):=h;clear h;replace H:=qOb H;obtain⟨⟨t244,t245⟩,A20,H⟩:=H;replace H:(some (t244,t245))=some (r1,r2):=H;have A2:=qAm A20;clear A20;simp only [Option.some.injEq,Prod.mk.injEq] at H;obtain⟨rfl,rfl⟩:=H;go_enter Try.func49,Try.ntmps49;go_wp2_with (first|((with_reducible refine gate_dst (N:=1) rfl ?_);refine box_event ?hg (N:=1) ?hd (cs:=#[.int .i64 a0_0,.slice A0_1 l0_1.length c0_1]) (t:=26) ?hr ?_;(case hd=>rfl);(case hg=>rfl);(case hr=>first|(go_simp;done)|(go_simp;rfl));intro gb242 hg w3 hbox hb;have n0_:=qAm (below_step qB53 hb);have n1_:=qAm (hbox);have n2_:=qAm ((by rw [hg];exact(below_size qB53):w.heap.size≤gb242));have n3_:=qAm ((by rw [hg];exact(below_size qB53):w.heap.size≤gb242));clear HB;have HB:=n0_;have BK242:=n1_;have GW242:=n2_;have GE242:=n3_;clear n0_ n1_ n2_ n3_;clear hb hbox hg)|((with_reducible refine gate_dst (N:=2) rfl ?_);refine box_event ?hg (N:=2) ?hd (cs:=#[.int .i64 0,.slice none 0 0]) (t:=26) ?hr ?_;(case hd=>rfl);(case hg=>rfl);(case hr=>first|(go_simp;done)|(go_simp;rfl));intro gb243 hg w4 hbox hb;have n0_:=qAm (blk_below (g:=gb242) (o:=.cells #[.int .i64 a0_0,.slice A0_1 l0_1.length c0_1] 26 (0,0)) qB70 hb);have n1_:=qAm (below_step qB34 hb);have n2_:=qAm (hbox);have n3_:=qAm ((by rw [hg];exact(below_size qB34):w.heap.size≤gb243));have n4_:=qAm ((by rw [hg];exact(below_size qB34):w.heap.size≤gb243));have n5_:=qAm ((by rw [hg];exact Nat.ne_of_lt (blk_lt (g:=gb242) (o:=.cells #[.int .i64 a0_0,.slice A0_1 l0_1.length c0_1] 26 (0,0)) qB70):gb242≠gb243));have n6_:=qAm ((by rw [hg];exact Nat.ne_of_gt (blk_lt (g:=gb242) (o:=.cells #[.int .i64 a0_0,.slice A0_1 l0_1.length c0_1] 26 (0,0)) qB70):gb243≠gb242));clear BK242;clear HB;have BK242:=n0_;have HB:=n1_;have BK243:=n2_;have GW243:=n3_;have GE243:=n4_;have NB242_243:=n5_;have NB243_242:=n6_;clear n0_ n1_ n2_ n3_ n4_ n5_ n6_;clear hb hbox hg;have hnb5:=NB242_243.1;have hnc5:=NB243_242.1;have hcz6_0:w4.cell? ⟨gb242,0,none⟩=some (.int .i64 a0_0):=(blk_cell BK242.1 0).trans rfl;have hcz6_1:w4.cell? ⟨gb242,1,none⟩=some (.slice A0_1 l0_1.length c0_1):=(blk_cell BK242.1 1).trans rfl;have hfz6_0:=blk_frozen BK242.1 0;have hfz6_1:=blk_frozen BK242.1 1)|((with_reducible refine gate_callee (f:=73) rfl ?_);refine goesL_ (some 4) rfl rfl Try.func73 (by kernel_rfl) rfl #[.agg #[.int .i64 a0_0,.slice A0_1 l0_1.length c0_1],.int .i64 (-1)] rfl qB50 ?_;(with_reducible refine(spec_l01Galois.calls k a0_0 _ _ l0_1 (-1) t244 t245 _ ?side1 ?side2 A2.1).mono ?_);(case side1=>repeat(first|exact(Kd.C_below HR0_1.1 HB.1)|(with_reducible refine Kd.C_alloc ?_ _)|(with_reducible refine Kd.C_drewN ?_ _)|(with_reducible refine Kd.C_drew ?_)));(case side2=>exact HC0_1.1);rintro e w7 ⟨v246,rfl,ho0,hb⟩;refine⟨_,rfl,?_⟩;have n0_:=qAm (Kd.R_lower ho0 (below_size qB21));have n1_:=qAm (blk_below (g:=gb242) (o:=.cells #[.int .i64 a0_0,.slice A0_1 l0_1.length c0_1] 26 (0,0)) qB70 hb);have n2_:=qAm (blk_below (g:=gb243) (o:=.cells #[.int .i64 0,.slice none 0 0] 26 (0,0)) (by (with_reducible repeat(first|refine blk_drewN ?_ _|refine blk_drew ?_|refine blk_alloc ?_ _));exact BK243.1) hb);have n3_:=qAm (below_step qB21 hb);clear BK242;clear BK243;clear HB;have HO247:=n0_;have BK242:=n1_;have BK243:=n2_;have HB:=n3_;clear n0_ n1_ n2_ n3_;(try clear hb);(try clear hb2);(try clear hk);(try clear hi);(try clear ho0);have hcz8_0:w7.cell? ⟨gb243,0,none⟩=some (.int .i64 0):=(blk_cell BK243.1 0).trans rfl;have hcz8_1:w7.cell? ⟨gb243,1,none⟩=some (.slice none 0 0):=(blk_cell BK243.1 1).trans rfl;have hfz8_0:=blk_frozen BK243.1 0;have hfz8_1:=blk_frozen BK243.1 1;obtain⟨Ao9,co9,eo9⟩:=Kd.R_slice HO247.1;subst eo9));refine bodyPost_ret (results_cell_row rfl _ _ gb243 26 #[.int .i64 t244,.slice Ao9 t245.length co9] (0,0) _ rfl (by (with_reducible repeat(first|refine blk_drewN ?_ _|refine blk_drew ?_|refine blk_alloc ?_ _));refine blk_put (cs:=#[.int .i64 t244,.slice none 0 0]) ?_ 1 _ rfl;(with_reducible repeat(first|refine blk_drewN ?_ _|refine blk_drew ?_|refine blk_alloc ?_ _));refine blk_put (cs:=#[.int .i64 0,.slice none 0 0]) ?_ 0 _ rfl;(with_reducible repeat(first|refine blk_drewN ?_ _|refine blk_drew ?_|refine blk_alloc ?_ _));exact BK243.1) Try.underlying26 rfl (by kernel_rfl)) rfl ?_;exact⟨_,by first|rfl|(simp [errW_none,errW_some] <;> rfl)|(simp [*,errW_none,errW_some] <;> rfl),by (with_reducible repeat(first|apply Kd.R_alloc|apply Kd.R_drewN|apply Kd.R_drew));exact Kd.R_mono (Kd.R_far (p:=⟨gb243,1,none⟩) (Kd.R_far (p:=⟨gb243,0,none⟩) (Kd.R_types HO247.1 BK243.1 (by decide)) (fun _ hk=>hk.2) (.int .i64 t244)) (fun _ hk=>hk.2) (.slice Ao9 t245.length co9)) (fun _ hk=>trivial),by repeat(first|(with_reducible first|exact HB.1|apply below_alloc|apply pw_below_drewN|apply below_drew1|refine below_set ?_ GE242.1|refine below_set ?_ GE243.1)|exact HB.1)⟩

/-! ### spec_l02Images: function 74 -/
def spec_l02Images.l0:Nat→List (S26)→List Int→Int→Int→List Int→Option ((List (S26))×List Int)
 |0,_,_,_,_,_=>none
 |k+1,x4,x5,x6,x249000,x249001=>if x6≤x249000 then ((spec_l01Gcd.f k x6 x249000).bind fun t255=>(if t255=1 then ((spec_l01Galois.f k x249000 x249001 x6).bind fun bt256=>(if x4.length<4398046511104 then (if x5.length<17592186044416 then (spec_l02Images.l0 k (x4 ++ [(⟨bt256.1,bt256.2⟩:S26)]) (x5 ++ [x6]) (wrap64 (x6+1)) x249000 x249001) else (none)) else (none))) else (spec_l02Images.l0 k x4 x5 (wrap64 (x6+1)) x249000 x249001))) else (some (x4,x5))
def spec_l02Images.f (k:Nat) (a0_0:Int) (l0_1:List Int):Option ((List (S26))×List Int):=spec_l02Images.l0 k (([]:List (S26))) (([]:List Int)) 1 a0_0 l0_1
theorem spec_l02Images.mono_l:∀k,(∀y0 y1 y2 y3 y4,LeO (spec_l02Images.l0 k y0 y1 y2 y3 y4) (spec_l02Images.l0 (k+1) y0 y1 y2 y3 y4))
 |0=>fun _ _ _ _ _ r h=>by simp [spec_l02Images.l0] at h
 |k+1=>by
  have ih0:=spec_l02Images.mono_l k
  ·intro y0 y1 y2 y3 y4;unfold spec_l02Images.l0;repeat' first
   |(with_reducible exact ih0 _ _ _ _ _)
   |(with_reducible exact spec_l01Galois.mono _ _ _ _)
   |(with_reducible exact spec_l01Gcd.mono _ _ _)
   |(with_reducible exact LeO.refl _)
   |(with_reducible exact LeO.none _)
   |(with_reducible refine LeO.ite ?_ ?_)
   |(with_reducible refine LeO.bind ?_ (fun _=>?_))
   |exact ih0 _ _ _ _ _
   |exact spec_l01Galois.mono _ _ _ _
   |exact spec_l01Gcd.mono _ _ _
   |exact LeO.none _
   |refine LeO.ite ?_ ?_
   |refine LeO.bind ?_ (fun _=>?_)
theorem spec_l02Images.mono:∀a0 a1 k,LeO (spec_l02Images.f k a0 a1) (spec_l02Images.f (k+1) a0 a1):=by
 intro a0 a1 k;have ih0:=spec_l02Images.mono_l k;unfold spec_l02Images.f;repeat' first
   |(with_reducible exact ih0 _ _ _ _ _)
   |(with_reducible exact spec_l01Galois.mono _ _ _ _)
   |(with_reducible exact spec_l01Gcd.mono _ _ _)
   |(with_reducible exact LeO.refl _)
   |(with_reducible exact LeO.none _)
   |(with_reducible refine LeO.ite ?_ ?_)
   |(with_reducible refine LeO.bind ?_ (fun _=>?_))
   |exact ih0 _ _ _ _ _
   |exact spec_l01Galois.mono _ _ _ _
   |exact spec_l01Gcd.mono _ _ _
   |exact LeO.none _
   |refine LeO.ite ?_ ?_
   |refine LeO.bind ?_ (fun _=>?_)
set_option maxHeartbeats 8000000 in
set_option maxRecDepth 100000 in
theorem spec_l02Images.calls (k:Nat) (a0_0:Int) (A0_1:Option Addr) (c0_1:Nat) (l0_1:List Int) (r1:List (S26)) (r2:List Int) (w:World) (hr0_1:Kd.C (Kd.int .i64) w A0_1 l0_1.length l0_1) (hc0_1:l0_1.length≤c0_1) (h:spec_l02Images.f k a0_0 l0_1=some (r1,r2)):
  Calls Try.prog 74 #[.agg #[.int .i64 a0_0,.slice A0_1 l0_1.length c0_1]] w fun e w'=>∃v0_ v1_:Value,e=.returned (.tuple #[v0_,v1_])∧Kd.S k26 26 w' w.heap.size (fun k_=>some k_≠(v1_:Value).ownBlock) v0_ r1∧Kd.R (Kd.int .i64) 2 w' w.heap.size (fun _=>True) v1_ r2∧Below w.heap.size w w':=by
 have hu26:=Try.underlying26;have HR0_1:=qAm hr0_1;have HC0_1:=qAm hc0_1;clear hr0_1 hc0_1;have HB:=qAm (Below.refl w.heap.size w);have H:(spec_l02Images.l0 k (([]:List (S26))) (([]:List Int)) 1 a0_0 l0_1)=some (r1,r2):=h;clear h;obtain⟨y249,hy249⟩:∃y_:List (S26),y_=(([]:List (S26))):=⟨_,rfl⟩
 replace H:(spec_l02Images.l0 k y249 (([]:List Int)) 1 a0_0 l0_1)=some (r1,r2):=by first|(rw [hy249];with_reducible exact H)|(have H2_:=(Option.bind_some _ _).symm.trans H;rw [hy249];with_reducible exact H2_)|(have H2_:=(Option.bind_some _ _).symm.trans H;with_reducible exact H2_)|with_reducible exact H|(rw [hy249];exact H)|exact H
 have Ny249:=qAm hy249;clear hy249;obtain⟨y252,hy252⟩:∃y_:List Int,y_=(([]:List Int)):=⟨_,rfl⟩
 replace H:(spec_l02Images.l0 k y249 y252 1 a0_0 l0_1)=some (r1,r2):=by first|(rw [hy252];with_reducible exact H)|(have H2_:=(Option.bind_some _ _).symm.trans H;rw [hy252];with_reducible exact H2_)|(have H2_:=(Option.bind_some _ _).symm.trans H;with_reducible exact H2_)|with_reducible exact H|(rw [hy252];exact H)|exact H
 have Ny252:=qAm hy252;clear hy252;have H':=qAm H;clear H;go_enter Try.func74,Try.ntmps74;go_wp2_with (first|((with_reducible refine gate_dst (N:=1) rfl ?_);refine box_event ?hg (N:=1) ?hd (cs:=#[.int .i64 a0_0,.slice A0_1 l0_1.length c0_1]) (t:=26) ?hr ?_;(case hd=>rfl);(case hg=>rfl);(case hr=>first|(go_simp;done)|(go_simp;rfl));intro gb248 hg w2 hbox hb;have n0_:=qAm (below_step qB53 hb);have n1_:=qAm (hbox);have n2_:=qAm ((by rw [hg];exact(below_size qB53):w.heap.size≤gb248));have n3_:=qAm ((by rw [hg];exact(below_size qB53):w.heap.size≤gb248));clear HB;have HB:=n0_;have BK248:=n1_;have GW248:=n2_;have GE248:=n3_;clear n0_ n1_ n2_ n3_;clear hb hbox hg)|((with_reducible refine gate_dst (N:=7) rfl ?_);refine Kd.S_lit k26 _ 26 ?hg (N:=7) ?hd (xs:=([]:List (S26))) (inner:=[]) (ok:=fun _=>True) (okp:=fun _=>True) ?hr ?hp (fun _ hk=>hk) trivial (Below.refl _ _) (Nat.le_refl _) (by simp) ?_;(case hd=>rfl);(case hg=>rfl);(case hr=>first|(go_simp;done)|(go_simp;rfl));(case hp=>exact(Reps.none _ _));intro v250 w3 ho4 hb hg_ hnew_;clear hg_ hnew_;(first|rw [← Ny249.1] at ho4|(simp only [Int.reduceToNat] at ho4;rw [← Ny249.1] at ho4));have n0_:=qAm (Kd.S_lower (Kd.S_newB ho4 (g:=gb248) (o:=.cells #[.int .i64 a0_0,.slice A0_1 l0_1.length c0_1] 26 (0,0)) qB71) (below_size qB35));have n1_:=qAm (blk_below (g:=gb248) (o:=.cells #[.int .i64 a0_0,.slice A0_1 l0_1.length c0_1] 26 (0,0)) qB71 hb);have n2_:=qAm (below_step qB35 hb);clear BK248;clear HB;have HO251:=n0_;have BK248:=n1_;have HB:=n2_;clear n0_ n1_ n2_;clear hb ho4)|((with_reducible refine gate_dst (N:=8) rfl ?_);refine Kd.R_lit (Kd.int .i64) _ 2 ?hg (N:=8) ?hd (xs:=([]:List Int)) (inner:=[]) (ok:=fun _=>True) (okp:=fun _=>True) ?hr ?hp (fun _ hk=>hk) trivial (Below.refl _ _) (Nat.le_refl _) (by simp) ?_;(case hd=>rfl);(case hg=>rfl);(case hr=>first|(go_simp;done)|(go_simp;rfl));(case hp=>exact(Reps.none _ _));intro v253 w5 ho6 hb hg_ hnew_;clear hg_ hnew_;(first|rw [← Ny252.1] at ho6|(simp only [Int.reduceToNat] at ho6;rw [← Ny252.1] at ho6));have n0_:=qAm (Kd.S_elder' (by (with_reducible repeat(first|apply Kd.S_alloc|apply Kd.S_drewN|apply Kd.S_drew));exact HO251.1) (Kd.R_base ho6) hb);have n1_:=qAm (Kd.R_lower ho6 (below_size qB35));have n2_:=qAm (blk_below (g:=gb248) (o:=.cells #[.int .i64 a0_0,.slice A0_1 l0_1.length c0_1] 26 (0,0)) qB71 hb);have n3_:=qAm (below_step qB35 hb);clear HO251;clear BK248;clear HB;have HO251:=n0_;have HO254:=n1_;have BK248:=n2_;have HB:=n3_;clear n0_ n1_ n2_ n3_;clear hb ho6));try simp only [Act.put,qSa,qSc,qSb]
 go_loopg [4,5,6] k (fun kq v4 v5 v6 w'=>∃(x4_1:List (S26)) (x5_1:List Int) (x6_1:Int),v6=.int .i64 x6_1∧Aside0 (spec_l02Images.l0 kq x4_1 x5_1 x6_1 a0_0 l0_1=some (r1,r2))∧Aside0 (kq≤k)∧Aside0 (Kd.S k26 26 w' w.heap.size (fun k_=>some k_≠(v5:Value).ownBlock∧k_≠gb248) v4 x4_1)∧Aside0 (Kd.R (Kd.int .i64) 2 w' w.heap.size (fun _=>True) v5 x5_1)∧Aside0 (w'.heap[gb248]? =some (.cells #[.int .i64 a0_0,(.slice A0_1 l0_1.length c0_1)] 26 (0,0)))∧Aside0 (Below w.heap.size w w'))
 case atStart=>exact⟨(y249),(y252),(1),qB107,H',⟨Nat.le_refl _⟩,⟨by (with_reducible repeat(first|apply Kd.S_alloc|apply Kd.S_drewN|apply Kd.S_drew));exact Kd.S_mono HO251.1 (fun _ hk=>⟨hk.2,hk.1.2⟩)⟩,⟨by (with_reducible repeat(first|apply Kd.R_alloc|apply Kd.R_drewN|apply Kd.R_drew));exact HO254.1⟩,⟨by (with_reducible repeat(first|refine blk_drewN ?_ _|refine blk_drew ?_|refine blk_alloc ?_ _));exact BK248.1⟩,⟨by repeat(first|(with_reducible first|exact HB.1|apply below_alloc|apply pw_below_drewN|apply below_drew1|refine below_set ?_ GE248.1)|exact HB.1)⟩⟩
 case round=>
  clear H';try clear p2
  obtain⟨x4_1,x5_1,x6_1,rfl,HA,HK1,HO_4,HO_5,BK248,HB⟩:=hrel;cases gk with
  |zero=>exact absurd HA.1 (by simp [spec_l02Images.l0])
  |succ k1=>
   have H:=HA.1;clear HA;simp only [spec_l02Images.l0] at H
   by_cases c7:x6_1≤a0_0
   ·rw [if_pos c7] at H;have c7b0:decide (x6_1≤a0_0)=true:=decide_eq_true c7;clear c7;replace H:=qOb H;obtain⟨t255,A80,H⟩:=H;replace H:(if t255=1 then ((spec_l01Galois.f k1 a0_0 l0_1 x6_1).bind fun bt256=>(if x4_1.length<4398046511104 then (if x5_1.length<17592186044416 then (spec_l02Images.l0 k1 (x4_1 ++ [(⟨bt256.1,bt256.2⟩:S26)]) (x5_1 ++ [x6_1]) (wrap64 (x6_1+1)) a0_0 l0_1) else (none)) else (none))) else (spec_l02Images.l0 k1 x4_1 x5_1 (wrap64 (x6_1+1)) a0_0 l0_1))=some (r1,r2):=H;have A8:=qAm A80;clear A80
    by_cases c9:t255=1
    ·rw [if_pos c9] at H;have c9b0:(t255==1)=true:=beq_iff_eq.mpr c9;have c9b1:(t255 !=1)=false:=bne_eq_false_iff_eq.mpr c9;clear c9;replace H:=qOb H;obtain⟨⟨t256,t257⟩,A100,H⟩:=H;replace H:(if x4_1.length<4398046511104 then (if x5_1.length<17592186044416 then (spec_l02Images.l0 k1 (x4_1 ++ [(⟨t256,t257⟩:S26)]) (x5_1 ++ [x6_1]) (wrap64 (x6_1+1)) a0_0 l0_1) else (none)) else (none))=some (r1,r2):=H;have A10:=qAm A100;clear A100
     by_cases c11:x4_1.length<4398046511104
     ·rw [if_pos c11] at H;have LMc11:=qAm c11;clear c11;obtain⟨y260,hy260⟩:∃y_:List (S26),y_=(x4_1 ++ [(⟨t256,t257⟩:S26)]):=⟨_,rfl⟩
      replace H:(if x5_1.length<17592186044416 then (spec_l02Images.l0 k1 y260 (x5_1 ++ [x6_1]) (wrap64 (x6_1+1)) a0_0 l0_1) else (none))=some (r1,r2):=by first|(rw [hy260];with_reducible exact H)|(have H2_:=(Option.bind_some _ _).symm.trans H;rw [hy260];with_reducible exact H2_)|(have H2_:=(Option.bind_some _ _).symm.trans H;with_reducible exact H2_)|with_reducible exact H|(rw [hy260];exact H)|exact H
      have Ny260:=qAm hy260;clear hy260
      by_cases c12:x5_1.length<17592186044416
      ·rw [if_pos c12] at H;have LMc12:=qAm c12;clear c12;obtain⟨y263,hy263⟩:∃y_:List Int,y_=(x5_1 ++ [x6_1]):=⟨_,rfl⟩
       replace H:(spec_l02Images.l0 k1 y260 y263 (wrap64 (x6_1+1)) a0_0 l0_1)=some (r1,r2):=by first|(rw [hy263];with_reducible exact H)|(have H2_:=(Option.bind_some _ _).symm.trans H;rw [hy263];with_reducible exact H2_)|(have H2_:=(Option.bind_some _ _).symm.trans H;with_reducible exact H2_)|with_reducible exact H|(rw [hy263];exact H)|exact H
       have Ny263:=qAm hy263;clear hy263;have H':=qAm H;clear H;have hcz13_0:wr.cell? ⟨gb248,0,none⟩=some (.int .i64 a0_0):=(blk_cell BK248.1 0).trans rfl;have hcz13_1:wr.cell? ⟨gb248,1,none⟩=some (.slice A0_1 l0_1.length c0_1):=(blk_cell BK248.1 1).trans rfl;have hfz13_0:=blk_frozen BK248.1 0;have hfz13_1:=blk_frozen BK248.1 1;go_wp2_with (first|((with_reducible refine gate_callee (f:=90) rfl ?_);refine goesL_ (some 18) rfl rfl Try.func90 (by kernel_rfl) rfl #[.int .i64 x6_1,.int .i64 a0_0] rfl qB50 ?_;(with_reducible refine(spec_l01Gcd.calls k1 x6_1 a0_0 t255 _ A8.1).mono ?_);rintro e w14 ⟨rfl,hb⟩;refine⟨_,rfl,?_⟩;have n0_:=qAm (Kd.S_below qB101 hb);have n1_:=qAm (Kd.R_below qB98 hb);have n2_:=qAm (blk_below (g:=gb248) (o:=.cells #[.int .i64 a0_0,.slice A0_1 l0_1.length c0_1] 26 (0,0)) qB71 hb);have n3_:=qAm (below_step qB35 hb);clear HO_4;clear HO_5;clear BK248;clear HB;have HO_4:=n0_;have HO_5:=n1_;have BK248:=n2_;have HB:=n3_;clear n0_ n1_ n2_ n3_;(try clear hb);(try clear hb2);(try clear hk);(try clear hi);have hcz15_0:w14.cell? ⟨gb248,0,none⟩=some (.int .i64 a0_0):=(blk_cell BK248.1 0).trans rfl;have hcz15_1:w14.cell? ⟨gb248,1,none⟩=some (.slice A0_1 l0_1.length c0_1):=(blk_cell BK248.1 1).trans rfl;have hfz15_0:=blk_frozen BK248.1 0;have hfz15_1:=blk_frozen BK248.1 1)|((with_reducible refine gate_callee (f:=73) rfl ?_);refine goesL_ (some 23) rfl rfl Try.func73 (by kernel_rfl) rfl #[.agg #[.int .i64 a0_0,.slice A0_1 l0_1.length c0_1],.int .i64 x6_1] rfl qB50 ?_;(with_reducible refine(spec_l01Galois.calls k1 a0_0 _ _ l0_1 x6_1 t256 t257 _ ?side1 ?side2 A10.1).mono ?_);(case side1=>repeat(first|exact(Kd.C_below HR0_1.1 HB.1)|(with_reducible refine Kd.C_alloc ?_ _)|(with_reducible refine Kd.C_drewN ?_ _)|(with_reducible refine Kd.C_drew ?_)));(case side2=>exact HC0_1.1);rintro e w16 ⟨v258,rfl,ho0,hb⟩;refine⟨_,rfl,?_⟩;have n0_:=qAm (Kd.S_elder' qB101 (Kd.R_base ho0) hb);have n1_:=qAm (Kd.R_elder' qB98 (Kd.R_base ho0) hb);have n2_:=qAm (Kd.R_lower (Kd.R_new' ho0 (Kd.R_lt qB98)) (below_size qB35));have n3_:=qAm (blk_below (g:=gb248) (o:=.cells #[.int .i64 a0_0,.slice A0_1 l0_1.length c0_1] 26 (0,0)) qB71 hb);have n4_:=qAm (below_step qB35 hb);clear HO_4;clear HO_5;clear BK248;clear HB;have HO_4:=n0_;have HO_5:=n1_;have HO259:=n2_;have BK248:=n3_;have HB:=n4_;clear n0_ n1_ n2_ n3_ n4_;(try clear hb);(try clear hb2);(try clear hk);(try clear hi);(try clear ho0);obtain⟨Ao18,co18,eo18⟩:=Kd.R_slice HO259.1;subst eo18)|((with_reducible refine gate_builtin (b:=.append) (xs:=#[.tmp 20,.tmp 24]) rfl ?_);at_builtin;refine Kd.S_append k26 (w0:=w) w.heap.size rfl (.tmp 20) (.tmp 24) 83 26 (.agg #[(.int .i64 0),(.slice none 0 0)]) 32 rfl Try.underlying83 info26 rfl (by decide) (by omega) u4 x4_1 (⟨t256,t257⟩:S26) [.int .i64 t256,.slice Ao18 t257.length co18] (fun k_=>some k_≠(u5:Value).ownBlock∧k_≠gb248) (fun k_=>some k_=(.slice Ao18 t257.length co18:Value).ownBlock) rfl rfl ?aP (fun k_ hk_=>((Kd.R_mono (ok':=fun k_=>((fun k_=>some k_≠(u5:Value).ownBlock∧k_≠gb248)) k_∧some k_≠(u4:Value).ownBlock) (Kd.R_types (Kd.R_apart' (HO259.1) (Kd.S_typed HO_4.1) (by decide)) BK248.1 (by decide)) (fun k_ hk=>⟨⟨hk.1.1.2,hk.2⟩,hk.1.2⟩))).1 k_ hk_.symm) ?aF ?aO ?aB ?aS ?aL ?_;(case aP=>exact k26_mkM _ _ _ (⟨t256,t257⟩:S26) (Kd.R_mono (Kd.R_tight rfl (Kd.R_mono (ok':=fun k_=>((fun k_=>some k_≠(u5:Value).ownBlock∧k_≠gb248)) k_∧some k_≠(u4:Value).ownBlock) (Kd.R_types (Kd.R_apart' (HO259.1) (Kd.S_typed HO_4.1) (by decide)) BK248.1 (by decide)) (fun k_ hk=>⟨⟨hk.1.1.2,hk.2⟩,hk.1.2⟩))) (fun _ h_=>h_)));(case aB=>exact qB35);(case aF=>exact(fun k_ hk=>⟨Kd.fresh' (Kd.R_lt qB98) k_ hk,Kd.freshB (g:=gb248) (o:=.cells #[.int .i64 a0_0,.slice A0_1 l0_1.length c0_1] 26 (0,0)) qB71 k_ hk⟩));(case aO=>exact(by (with_reducible repeat(first|apply Kd.S_alloc|apply Kd.S_drewN|apply Kd.S_drew));exact Kd.S_mono HO_4.1 (fun k_ hk=>⟨⟨hk.1.1,hk.1.2⟩,fun e_=>hk.2 e_⟩)));(case aS=>exact(below_size qB35));(case aL=>have:=LMc11.1;omega);intro v261 w17 ho hb hg hat;rw [← Ny260.1] at ho;have n0_:=qAm (Kd.R_over' qB98 (Kd.S_typed qB101) (by decide) hg);have n1_:=qAm (blk_grown (g:=gb248) (o:=.cells #[.int .i64 a0_0,.slice A0_1 l0_1.length c0_1] 26 (0,0)) qB71 hg (Kd.S_away HO_4.1 (fun _ hk=>hk.1.2)));have n2_:=qAm (hb);have n3_:=qAm (ho);clear HO_5;clear BK248;clear HB;clear HO_4;clear HO259;have HO_5:=n0_;have BK248:=n1_;have HB:=n2_;have HO262:=n3_;clear n0_ n1_ n2_ n3_;clear ho hb hg hat)|((with_reducible refine gate_builtin (b:=.append) (xs:=#[.tmp 26,.tmp 28]) rfl ?_);at_builtin;refine Kd.R_append (Kd.int .i64) (w0:=w) w.heap.size rfl (.tmp 26) (.tmp 28) 22 2 (.int .i64 0) 8 rfl Try.underlying22 info2 rfl (by decide) (by omega) u5 x5_1 x6_1 [.int .i64 x6_1] (fun _=>True) (fun _=>False) rfl rfl ?aP (fun _ hk=>hk.elim) ?aF ?aO ?aB ?aS ?aL ?_;(case aP=>exact rfl);(case aB=>exact qB35);(case aF=>exact(fun _ _=>trivial));(case aO=>exact(by (with_reducible repeat(first|apply Kd.R_alloc|apply Kd.R_drewN|apply Kd.R_drew));exact Kd.R_mono HO_5.1 (fun _ hk=>trivial)));(case aS=>exact(below_size qB35));(case aL=>have:=LMc12.1;omega);intro v264 w19 ho hb hg hat;rw [← Ny263.1] at ho;have n0_:=qAm (blk_grown (g:=gb248) (o:=.cells #[.int .i64 a0_0,.slice A0_1 l0_1.length c0_1] 26 (0,0)) qB71 hg (Kd.R_ne HO_5.1 BK248.1 (by decide)));have n1_:=qAm (Kd.S_after (ok:=(fun k_=>k_≠gb248)) (by (with_reducible repeat(first|apply Kd.S_alloc|apply Kd.S_drewN|apply Kd.S_drew));exact Kd.S_mono HO262.1 (fun _ hk=>⟨hk.2,hk.1⟩)) hg hat);have n2_:=qAm (hb);have n3_:=qAm (ho);clear BK248;clear HO262;clear HB;clear HO_5;have BK248:=n0_;have HO262:=n1_;have HB:=n2_;have HO265:=n3_;clear n0_ n1_ n2_ n3_;clear ho hb hg hat))
       (first|go_roundg k1|((try simp only [add_plain] at *);go_roundg k1))
       case measure=>have:=HK1.1;omega
       case rel=>exact⟨(y260),(y263),(wrap64 (x6_1+1)),qB107,H',⟨by have:=HK1.1;omega⟩,⟨by (with_reducible repeat(first|apply Kd.S_alloc|apply Kd.S_drewN|apply Kd.S_drew));exact Kd.S_mono HO262.1 (fun _ hk=>⟨hk.2,hk.1⟩)⟩,⟨by (with_reducible repeat(first|apply Kd.R_alloc|apply Kd.R_drewN|apply Kd.R_drew));exact HO265.1⟩,⟨by (with_reducible repeat(first|refine blk_drewN ?_ _|refine blk_drew ?_|refine blk_alloc ?_ _));exact BK248.1⟩,⟨by repeat(first|(with_reducible first|exact HB.1|apply below_alloc|apply pw_below_drewN|apply below_drew1|refine below_set ?_ GE248.1)|exact HB.1)⟩⟩
      ·rw [if_neg c12] at H;exact absurd H (by simp)
     ·rw [if_neg c11] at H;exact absurd H (by simp)
    ·rw [if_neg c9] at H;have c9b0:(t255==1)=false:=beq_eq_false_iff_ne.mpr c9;have c9b1:(t255 !=1)=true:=bne_iff_ne.mpr c9;have H':=qAm H;clear H;have hcz20_0:wr.cell? ⟨gb248,0,none⟩=some (.int .i64 a0_0):=(blk_cell BK248.1 0).trans rfl;have hcz20_1:wr.cell? ⟨gb248,1,none⟩=some (.slice A0_1 l0_1.length c0_1):=(blk_cell BK248.1 1).trans rfl;have hfz20_0:=blk_frozen BK248.1 0;have hfz20_1:=blk_frozen BK248.1 1;go_wp2_with (first|((with_reducible refine gate_callee (f:=90) rfl ?_);refine goesL_ (some 18) rfl rfl Try.func90 (by kernel_rfl) rfl #[.int .i64 x6_1,.int .i64 a0_0] rfl qB50 ?_;(with_reducible refine(spec_l01Gcd.calls k1 x6_1 a0_0 t255 _ A8.1).mono ?_);rintro e w21 ⟨rfl,hb⟩;refine⟨_,rfl,?_⟩;have n0_:=qAm (Kd.S_below qB101 hb);have n1_:=qAm (Kd.R_below qB98 hb);have n2_:=qAm (blk_below (g:=gb248) (o:=.cells #[.int .i64 a0_0,.slice A0_1 l0_1.length c0_1] 26 (0,0)) qB71 hb);have n3_:=qAm (below_step qB35 hb);clear HO_4;clear HO_5;clear BK248;clear HB;have HO_4:=n0_;have HO_5:=n1_;have BK248:=n2_;have HB:=n3_;clear n0_ n1_ n2_ n3_;(try clear hb);(try clear hb2);(try clear hk);(try clear hi)))
     (first|go_roundg k1|((try simp only [add_plain] at *);go_roundg k1))
     case measure=>have:=HK1.1;omega
     case rel=>exact⟨(x4_1),(x5_1),(wrap64 (x6_1+1)),qB107,H',⟨by have:=HK1.1;omega⟩,⟨by (with_reducible repeat(first|apply Kd.S_alloc|apply Kd.S_drewN|apply Kd.S_drew));exact HO_4.1⟩,⟨by (with_reducible repeat(first|apply Kd.R_alloc|apply Kd.R_drewN|apply Kd.R_drew));exact HO_5.1⟩,⟨by (with_reducible repeat(first|refine blk_drewN ?_ _|refine blk_drew ?_|refine blk_alloc ?_ _));exact BK248.1⟩,⟨by repeat(first|(with_reducible first|exact HB.1|apply below_alloc|apply pw_below_drewN|apply below_drew1|refine below_set ?_ GE248.1)|exact HB.1)⟩⟩
   ·rw [if_neg c7] at H;have c7b0:decide (x6_1≤a0_0)=false:=decide_eq_false c7;clear c7;simp only [Option.some.injEq,Prod.mk.injEq] at H;obtain⟨rfl,rfl⟩:=H;have hcz22_0:wr.cell? ⟨gb248,0,none⟩=some (.int .i64 a0_0):=(blk_cell BK248.1 0).trans rfl;have hcz22_1:wr.cell? ⟨gb248,1,none⟩=some (.slice A0_1 l0_1.length c0_1):=(blk_cell BK248.1 1).trans rfl;have hfz22_0:=blk_frozen BK248.1 0;have hfz22_1:=blk_frozen BK248.1 1;go_wp2;go_ret2;exact⟨_,_,by first|rfl|(simp [errW_none,errW_some] <;> rfl)|(simp [*,errW_none,errW_some] <;> rfl),by (with_reducible repeat(first|apply Kd.S_alloc|apply Kd.S_drewN|apply Kd.S_drew));exact Kd.S_mono HO_4.1 (fun _ hk=>hk.1),by (with_reducible repeat(first|apply Kd.R_alloc|apply Kd.R_drewN|apply Kd.R_drew));exact HO_5.1,by repeat(first|(with_reducible first|exact HB.1|apply below_alloc|apply pw_below_drewN|apply below_drew1|refine below_set ?_ GE248.1)|exact HB.1)⟩

/-! ### spec_l02Trace: function 50 -/
def spec_l02Trace.l0:Nat→List (S26)→Int→Int→Option (Int)
 |0,_,_,_=>none
 |k+1,x3,x5,x6=>if x6<(x3.length:Int) then (if 0≤x6 then (if 0<(((rd_T26 x3 x6).f1).length:Int) then (spec_l02Trace.l0 k x3 (wrap64 (x5+(rd ((rd_T26 x3 x6).f1) 0))) (wrap64 (x6+1))) else (none)) else (none)) else (some x5)
def spec_l02Trace.f (k:Nat) (a0_0:Int) (l0_1:List Int):Option (Int):=(spec_l02Images.f k a0_0 l0_1).bind fun bt267=>(spec_l02Trace.l0 k bt267.1 0 0)
theorem spec_l02Trace.mono_l:∀k,(∀y0 y1 y2,LeO (spec_l02Trace.l0 k y0 y1 y2) (spec_l02Trace.l0 (k+1) y0 y1 y2))
 |0=>fun _ _ _ r h=>by simp [spec_l02Trace.l0] at h
 |k+1=>by
  have ih0:=spec_l02Trace.mono_l k
  ·intro y0 y1 y2;unfold spec_l02Trace.l0;repeat' first
   |(with_reducible exact ih0 _ _ _)
   |(with_reducible exact spec_l02Images.mono _ _ _)
   |(with_reducible exact LeO.refl _)
   |(with_reducible exact LeO.none _)
   |(with_reducible refine LeO.ite ?_ ?_)
   |(with_reducible refine LeO.bind ?_ (fun _=>?_))
   |exact ih0 _ _ _
   |exact spec_l02Images.mono _ _ _
   |exact LeO.none _
   |refine LeO.ite ?_ ?_
   |refine LeO.bind ?_ (fun _=>?_)
theorem spec_l02Trace.mono:∀a0 a1 k,LeO (spec_l02Trace.f k a0 a1) (spec_l02Trace.f (k+1) a0 a1):=by
 intro a0 a1 k;have ih0:=spec_l02Trace.mono_l k;unfold spec_l02Trace.f;repeat' first
   |(with_reducible exact ih0 _ _ _)
   |(with_reducible exact spec_l02Images.mono _ _ _)
   |(with_reducible exact LeO.refl _)
   |(with_reducible exact LeO.none _)
   |(with_reducible refine LeO.ite ?_ ?_)
   |(with_reducible refine LeO.bind ?_ (fun _=>?_))
   |exact ih0 _ _ _
   |exact spec_l02Images.mono _ _ _
   |exact LeO.none _
   |refine LeO.ite ?_ ?_
   |refine LeO.bind ?_ (fun _=>?_)
set_option maxHeartbeats 8000000 in
set_option maxRecDepth 100000 in
theorem spec_l02Trace.calls (k:Nat) (a0_0:Int) (A0_1:Option Addr) (c0_1:Nat) (l0_1:List Int) (r:Int) (w:World) (hr0_1:Kd.C (Kd.int .i64) w A0_1 l0_1.length l0_1) (hc0_1:l0_1.length≤c0_1) (h:spec_l02Trace.f k a0_0 l0_1=some r):
  Calls Try.prog 50 #[.agg #[.int .i64 a0_0,.slice A0_1 l0_1.length c0_1]] w fun e w'=>e=.returned (.int .i64 r)∧Below w.heap.size w w':=by
 have hu26:=Try.underlying26;have HR0_1:=qAm hr0_1;have HC0_1:=qAm hc0_1;clear hr0_1 hc0_1;have HB:=qAm (Below.refl w.heap.size w);have H:((spec_l02Images.f k a0_0 l0_1).bind fun bt267=>(spec_l02Trace.l0 k bt267.1 0 0))=some r:=h;clear h;replace H:=qOb H;obtain⟨⟨t267,t270⟩,A20,H⟩:=H;replace H:(spec_l02Trace.l0 k t267 0 0)=some r:=H;have A2:=qAm A20;clear A20;have H':=qAm H;clear H;go_enter Try.func50,Try.ntmps50;go_wp2_with (first|((with_reducible refine gate_dst (N:=1) rfl ?_);refine box_event ?hg (N:=1) ?hd (cs:=#[.int .i64 a0_0,.slice A0_1 l0_1.length c0_1]) (t:=26) ?hr ?_;(case hd=>rfl);(case hg=>rfl);(case hr=>first|(go_simp;done)|(go_simp;rfl));intro gb266 hg w3 hbox hb;have n0_:=qAm (below_step qB53 hb);have n1_:=qAm (hbox);have n2_:=qAm ((by rw [hg];exact(below_size qB53):w.heap.size≤gb266));have n3_:=qAm ((by rw [hg];exact(below_size qB53):w.heap.size≤gb266));clear HB;have HB:=n0_;have BK266:=n1_;have GW266:=n2_;have GE266:=n3_;clear n0_ n1_ n2_ n3_;clear hb hbox hg;have hcz4_0:w3.cell? ⟨gb266,0,none⟩=some (.int .i64 a0_0):=(blk_cell BK266.1 0).trans rfl;have hcz4_1:w3.cell? ⟨gb266,1,none⟩=some (.slice A0_1 l0_1.length c0_1):=(blk_cell BK266.1 1).trans rfl;have hfz4_0:=blk_frozen BK266.1 0;have hfz4_1:=blk_frozen BK266.1 1)|((with_reducible refine gate_callee (f:=74) rfl ?_);refine goesL_ (some 9) rfl rfl Try.func74 (by kernel_rfl) rfl #[.agg #[.int .i64 a0_0,.slice A0_1 l0_1.length c0_1]] rfl qB50 ?_;(with_reducible refine(spec_l02Images.calls k a0_0 _ _ l0_1 t267 t270 _ ?side1 ?side2 A2.1).mono ?_);(case side1=>repeat(first|exact(Kd.C_below HR0_1.1 HB.1)|(with_reducible refine Kd.C_alloc ?_ _)|(with_reducible refine Kd.C_drewN ?_ _)|(with_reducible refine Kd.C_drew ?_)));(case side2=>exact HC0_1.1);rintro e w5 ⟨v268,v271,rfl,ho0,ho1,hb⟩;refine⟨_,rfl,?_⟩;have n0_:=qAm (Kd.S_lower (Kd.S_newB ho0 (g:=gb266) (o:=.cells #[.int .i64 a0_0,.slice A0_1 l0_1.length c0_1] 26 (0,0)) qB72) (below_size qB36));have n1_:=qAm (Kd.R_lower ho1 (below_size qB36));have n2_:=qAm (blk_below (g:=gb266) (o:=.cells #[.int .i64 a0_0,.slice A0_1 l0_1.length c0_1] 26 (0,0)) qB72 hb);have n3_:=qAm (below_step qB36 hb);clear BK266;clear HB;have HO269:=n0_;have HO272:=n1_;have BK266:=n2_;have HB:=n3_;clear n0_ n1_ n2_ n3_;(try clear hb);(try clear hb2);(try clear hk);(try clear hi);(try clear ho0);(try clear ho1)));try simp only [Act.put,qSa,qSc,qSb]
 go_loopg [5,6] k (fun kq v5 v6 w'=>∃(x5_1:Int) (x6_1:Int),v5=.int .i64 x5_1∧v6=.int .i64 x6_1∧Aside0 (spec_l02Trace.l0 kq t267 x5_1 x6_1=some r)∧Aside0 (kq≤k)∧Aside0 (Kd.S k26 26 w' w.heap.size (fun k_=>k_≠gb266) v268 t267)∧Aside0 (w'.heap[gb266]? =some (.cells #[.int .i64 a0_0,(.slice A0_1 l0_1.length c0_1)] 26 (0,0)))∧Aside0 (Below w.heap.size w w'))
 case atStart=>exact⟨(0),(0),qB107,qB107,H',⟨Nat.le_refl _⟩,⟨by (with_reducible repeat(first|apply Kd.S_alloc|apply Kd.S_drewN|apply Kd.S_drew));exact Kd.S_mono HO269.1 (fun _ hk=>hk.2)⟩,⟨by (with_reducible repeat(first|refine blk_drewN ?_ _|refine blk_drew ?_|refine blk_alloc ?_ _));exact BK266.1⟩,⟨by repeat(first|(with_reducible first|exact HB.1|apply below_alloc|apply pw_below_drewN|apply below_drew1|refine below_set ?_ GE266.1)|exact HB.1)⟩⟩
 case round=>
  clear H';try clear p2
  try clear c5
  try clear hcz4_0
  try clear hcz4_1
  try clear hfz4_0
  try clear hfz4_1
  obtain⟨x5_1,x6_1,rfl,rfl,HA,HK1,HO_3,BK266,HB⟩:=hrel;cases gk with
  |zero=>exact absurd HA.1 (by simp [spec_l02Trace.l0])
  |succ k1=>
   have H:=HA.1;clear HA;simp only [spec_l02Trace.l0] at H
   by_cases c6:x6_1<(t267.length:Int)
   ·rw [if_pos c6] at H;have c6b0:decide (x6_1<(t267.length:Int))=true:=decide_eq_true c6;clear c6
    by_cases c7:0≤x6_1
    ·rw [if_pos c7] at H;have c7b0:decide (0≤x6_1)=true:=decide_eq_true c7;clear c7
     by_cases c8:0<(((rd_T26 t267 x6_1).f1).length:Int)
     ·rw [if_pos c8] at H;have c8b0:decide (0<(((rd_T26 t267 x6_1).f1).length:Int))=true:=decide_eq_true c8;have c8b1:decide (0<((rd_T26 t267 x6_1).f1).length)=true:=decide_eq_true (by omega);clear c8;have H':=qAm H;clear H;obtain⟨Ao9,co9,eo9⟩:=Kd.S_slice HO_3.1;subst eo9;have p273:0≤(x6_1:Int):=of_decide_eq_true qB106;have q273:x6_1<(t267.length:Int):=of_decide_eq_true qB106;obtain⟨ad273,A273_1,c273_1,e273,hx273_0,hx273_1,hl273_1,hi273_1⟩:=at_T26 (Kd.S_reads' HO_3.1).2.2 x6_1 p273 q273;cases e273
      obtain⟨ce273,hce273,hMe273,hcc273⟩:=Kd.S_get HO_3.1 z26 x6_1 p273 (by first|exact q273|exact of_decide_eq_true qB106|(have e_:=(Kd.S_reads' HO_3.1).1;omega));obtain⟨ve273_1,rfl,ge273_1⟩:=k26_openM hMe273;have hv273_1:=hcc273 1 _ rfl;rw [add_field _ _ 1 (by omega)] at hv273_1;replace hv273_1:=Option.some.inj (hv273_1.symm.trans hx273_1);rw [hv273_1] at ge273_1;have HL273_1:=qAm (show Kd.R (Kd.int .i64) 2 _ _ _ _ ((rd_T26 t267 x6_1).f1) from ge273_1);clear hv273_1 ge273_1 hcc273 hce273;have HR273_1:=qAm hi273_1;have HC273_1:=qAm hl273_1;clear hi273_1 hl273_1;replace p273:=eq_true p273;replace q273:=eq_true q273;have p274:0≤(0:Int):=(by omega)
      have q274:0<(((rd_T26 t267 x6_1).f1).length:Int):=of_decide_eq_true qB106;obtain⟨ad274,e274,hx274_0⟩:=Kd.at_int (by repeat(first|(with_reducible exact HR273_1.1)|(with_reducible refine Kd.C_alloc ?_ _)|(with_reducible refine Kd.C_drewN ?_ _)|(with_reducible refine Kd.C_drew ?_)|exact HR273_1.1)) 0 p274 q274;cases e274
      have qi274:(0<((rd_T26 t267 x6_1).f1).length)=True:=eq_true (by omega)
      (try rw [show((0:Int)).toNat=0 from rfl] at hx274_0)
      (try rw [Addr.add_zero'] at hx274_0)
      replace p274:=eq_true p274;replace q274:=eq_true q274;go_wp2
      (first|go_roundg k1|((try simp only [add_plain] at *);go_roundg k1))
      case measure=>have:=HK1.1;omega
      case rel=>exact⟨(wrap64 (x5_1+(rd ((rd_T26 t267 x6_1).f1) 0))),(wrap64 (x6_1+1)),qB107,qB107,H',⟨by have:=HK1.1;omega⟩,⟨by (with_reducible repeat(first|apply Kd.S_alloc|apply Kd.S_drewN|apply Kd.S_drew));exact HO_3.1⟩,⟨by (with_reducible repeat(first|refine blk_drewN ?_ _|refine blk_drew ?_|refine blk_alloc ?_ _));exact BK266.1⟩,⟨by repeat(first|(with_reducible first|exact HB.1|apply below_alloc|apply pw_below_drewN|apply below_drew1|refine below_set ?_ GE266.1)|exact HB.1)⟩⟩
     ·rw [if_neg c8] at H;exact absurd H (by simp)
    ·rw [if_neg c7] at H;exact absurd H (by simp)
   ·rw [if_neg c6] at H;have c6b0:decide (x6_1<(t267.length:Int))=false:=decide_eq_false c6;clear c6;obtain rfl:=Option.some.inj H;obtain⟨Ao10,co10,eo10⟩:=Kd.S_slice HO_3.1;subst eo10;go_wp2;go_ret;exact⟨by first|rfl|(simp [errW_none,errW_some] <;> rfl)|(simp [*,errW_none,errW_some] <;> rfl),by repeat(first|(with_reducible first|exact HB.1|apply below_alloc|apply pw_below_drewN|apply below_drew1|refine below_set ?_ GE266.1)|exact HB.1)⟩

end Go.Proofs.Ythljmbobccaalaa.PFnExactSizeOf
