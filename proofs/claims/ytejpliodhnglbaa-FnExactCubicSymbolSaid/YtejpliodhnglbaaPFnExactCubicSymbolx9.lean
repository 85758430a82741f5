/- The functions that the law reaches, as plain functions, each with the proof that the program comes to it; no condition. Written by a program of this session (wip/mp.py) over the printing of the kit; what is marked HAND is told by hand. -/
import Derived.Test.YtejpliodhnglbaaPFnExactCubicSymbolx0
import Derived.Test.YtejpliodhnglbaaPFnExactCubicSymbolx3
import Derived.Test.YtejpliodhnglbaaPFnExactCubicSymbolx4
import Derived.Test.YtejpliodhnglbaaPFnExactCubicSymbolx8
namespace Go.Proofs.Ytejpliodhnglbaa.PFnExactCubicSymbol
open Go.RowKit Go.Proofs.YtejpliodhnglbaaW.PrintWords Go.Proofs.YtejpliodhnglbaaW.PrintLast Go.Proofs.YtejpliodhnglbaaW.PrintMore
attribute [local go_sem] max2_int min2_int max_two min_two max_three min_three max_four min_four   -- for this text's walks alone
set_option linter.unusedVariables false
set_option linter.unusedSimpArgs false

/-! ### spec_CubicSymbol: function 16 -/
def spec_CubicSymbol.j0:Nat→Int→Bool→Int→List Int→Int→List Int→Option (Int×Int)
 |0,_,_,_,_,_,_=>none
 |k+1,x6,x23,x341000,x341001,x342000,x342001=>if x23=true then (if 5=0 then ((spec_l09Symbol.f k x341000 x341001 x342000 x342001).bind fun t348=>(some (t348,0))) else (some (0,5))) else (if x6=0 then ((spec_l09Symbol.f k x341000 x341001 x342000 x342001).bind fun t349=>(some (t349,0))) else (some (0,x6)))
def spec_CubicSymbol.f (k:Nat) (a0_0:Int) (l0_1:List Int) (a1_0:Int) (l1_1:List Int):Option (Int×Int):=(spec_l09Code.f k (([(⟨a0_0,l0_1⟩:S26),(⟨a1_0,l1_1⟩:S26)]:List (S26)))).bind fun t345=>(if t345=0 then ((spec_l09Prime.f k a1_0 l1_1).bind fun t346=>(if t346=true then ((spec_l09Norm.f a1_0 l1_1).bind fun t347=>(spec_CubicSymbol.j0 k t345 ((Int.tmod t347 3)==0) a0_0 l0_1 a1_0 l1_1)) else (spec_CubicSymbol.j0 k t345 true a0_0 l0_1 a1_0 l1_1))) else (spec_CubicSymbol.j0 k t345 false a0_0 l0_1 a1_0 l1_1))
theorem spec_CubicSymbol.mono_l:∀k,(∀y0 y1 y2 y3 y4 y5,LeO (spec_CubicSymbol.j0 k y0 y1 y2 y3 y4 y5) (spec_CubicSymbol.j0 (k+1) y0 y1 y2 y3 y4 y5))
 |0=>fun _ _ _ _ _ _ r h=>by simp [spec_CubicSymbol.j0] at h
 |k+1=>by
  have ih0:=spec_CubicSymbol.mono_l k
  ·intro y0 y1 y2 y3 y4 y5;unfold spec_CubicSymbol.j0;repeat' first
   |(with_reducible exact ih0 _ _ _ _ _ _)
   |(with_reducible exact spec_l09Code.mono _ _)
   |(with_reducible exact spec_l09Prime.mono _ _ _)
   |(with_reducible exact spec_l09Symbol.mono _ _ _ _ _)
   |(with_reducible exact LeO.refl _)
   |(with_reducible exact LeO.none _)
   |(with_reducible refine LeO.ite ?_ ?_)
   |(with_reducible refine LeO.bind ?_ (fun _=>?_))
   |exact ih0 _ _ _ _ _ _
   |exact spec_l09Code.mono _ _
   |exact spec_l09Prime.mono _ _ _
   |exact spec_l09Symbol.mono _ _ _ _ _
   |exact LeO.none _
   |refine LeO.ite ?_ ?_
   |refine LeO.bind ?_ (fun _=>?_)
theorem spec_CubicSymbol.mono:∀a0 a1 a2 a3 k,LeO (spec_CubicSymbol.f k a0 a1 a2 a3) (spec_CubicSymbol.f (k+1) a0 a1 a2 a3):=by
 intro a0 a1 a2 a3 k;have ih0:=spec_CubicSymbol.mono_l k;unfold spec_CubicSymbol.f;repeat' first
   |(with_reducible exact ih0 _ _ _ _ _ _)
   |(with_reducible exact spec_l09Code.mono _ _)
   |(with_reducible exact spec_l09Prime.mono _ _ _)
   |(with_reducible exact spec_l09Symbol.mono _ _ _ _ _)
   |(with_reducible exact LeO.refl _)
   |(with_reducible exact LeO.none _)
   |(with_reducible refine LeO.ite ?_ ?_)
   |(with_reducible refine LeO.bind ?_ (fun _=>?_))
   |exact ih0 _ _ _ _ _ _
   |exact spec_l09Code.mono _ _
   |exact spec_l09Prime.mono _ _ _
   |exact spec_l09Symbol.mono _ _ _ _ _
   |exact LeO.none _
   |refine LeO.ite ?_ ?_
   |refine LeO.bind ?_ (fun _=>?_)
set_option maxHeartbeats 8000000 in
set_option maxRecDepth 100000 in
theorem spec_CubicSymbol.calls (k:Nat) (a0_0:Int) (P0_1_:Nat→Prop) (A0_1:Option Addr) (c0_1:Nat) (l0_1:List Int) (a1_0:Int) (P1_1_:Nat→Prop) (A1_1:Option Addr) (c1_1:Nat) (l1_1:List Int) (r1:Int) (r2:Int) (w:World) (hs0_1:Kd.V (Kd.int .i64) 2 w w.heap.size (fun k_=>P0_1_ k_) (.slice A0_1 l0_1.length c0_1) l0_1) (hs1_1:Kd.V (Kd.int .i64) 2 w w.heap.size (fun k_=>P1_1_ k_) (.slice A1_1 l1_1.length c1_1) l1_1) (h:spec_CubicSymbol.f k a0_0 l0_1 a1_0 l1_1=some (r1,r2)):
  Calls Try.prog 16 #[.agg #[.int .i64 a0_0,.slice A0_1 l0_1.length c0_1],.agg #[.int .i64 a1_0,.slice A1_1 l1_1.length c1_1]] w fun e w'=>e=.returned (.tuple #[.int .i64 r1,.int .i64 r2])∧Below w.heap.size w w':=by
 have hu26:=Try.underlying26;have HO0_1:=qAm (show Kd.V (Kd.int .i64) 2 w w.heap.size (fun k_=>((P0_1_ k_∨P1_1_ k_)∨w.heap.size≤k_)) (.slice A0_1 l0_1.length c0_1) l0_1 from Kd.V_mono hs0_1 (fun k_ hk=>.inl (.inl hk)));have HO1_1:=qAm (show Kd.V (Kd.int .i64) 2 w w.heap.size (fun k_=>((P0_1_ k_∨P1_1_ k_)∨w.heap.size≤k_)) (.slice A1_1 l1_1.length c1_1) l1_1 from Kd.V_mono hs1_1 (fun k_ hk=>.inl (.inr hk)));have HB:=qAm (Below.refl w.heap.size w);have H:((spec_l09Code.f k (([(⟨a0_0,l0_1⟩:S26),(⟨a1_0,l1_1⟩:S26)]:List (S26)))).bind fun t345=>(if t345=0 then ((spec_l09Prime.f k a1_0 l1_1).bind fun t346=>(if t346=true then ((spec_l09Norm.f a1_0 l1_1).bind fun t347=>(spec_CubicSymbol.j0 k t345 ((Int.tmod t347 3)==0) a0_0 l0_1 a1_0 l1_1)) else (spec_CubicSymbol.j0 k t345 true a0_0 l0_1 a1_0 l1_1))) else (spec_CubicSymbol.j0 k t345 false a0_0 l0_1 a1_0 l1_1)))=some (r1,r2):=h;clear h;obtain⟨y342,hy342⟩:∃y_:List (S26),y_=(([(⟨a0_0,l0_1⟩:S26),(⟨a1_0,l1_1⟩:S26)]:List (S26))):=⟨_,rfl⟩
 replace H:((spec_l09Code.f k y342).bind fun t345=>(if t345=0 then ((spec_l09Prime.f k a1_0 l1_1).bind fun t346=>(if t346=true then ((spec_l09Norm.f a1_0 l1_1).bind fun t347=>(spec_CubicSymbol.j0 k t345 ((Int.tmod t347 3)==0) a0_0 l0_1 a1_0 l1_1)) else (spec_CubicSymbol.j0 k t345 true a0_0 l0_1 a1_0 l1_1))) else (spec_CubicSymbol.j0 k t345 false a0_0 l0_1 a1_0 l1_1)))=some (r1,r2):=by first|(rw [hy342];with_reducible exact H)|(have H2_:=(Option.bind_some _ _).symm.trans H;rw [hy342];with_reducible exact H2_)|(have H2_:=(Option.bind_some _ _).symm.trans H;with_reducible exact H2_)|with_reducible exact H|(rw [hy342];exact H)|exact H
 have Ny342:=qAm hy342;clear hy342;replace H:=qOb H;obtain⟨t345,A30,H⟩:=H;replace H:(if t345=0 then ((spec_l09Prime.f k a1_0 l1_1).bind fun t346=>(if t346=true then ((spec_l09Norm.f a1_0 l1_1).bind fun t347=>(spec_CubicSymbol.j0 k t345 ((Int.tmod t347 3)==0) a0_0 l0_1 a1_0 l1_1)) else (spec_CubicSymbol.j0 k t345 true a0_0 l0_1 a1_0 l1_1))) else (spec_CubicSymbol.j0 k t345 false a0_0 l0_1 a1_0 l1_1))=some (r1,r2):=H;have A3:=qAm A30;clear A30;have HC4:=qAm H;clear H;go_enter Try.func16,Try.ntmps16;go_upto_region 2 with (first|((with_reducible refine gate_dst (N:=2) rfl ?_);refine box_event qL (N:=2) qL (cs:=#[.int .i64 a0_0,.slice A0_1 l0_1.length c0_1]) (t:=26) qR ?_;intro gb340 hg w5 hbox hb;have n0_:=qAm (Kd.V_below (Kd.V_elderB qB194 gb340 (Nat.le_of_eq hg.symm)) hb);have n1_:=qAm (Kd.V_below (Kd.V_elderB qB195 gb340 (Nat.le_of_eq hg.symm)) hb);have n2_:=qAm (below_step qB111 hb);have n3_:=qAm (hbox);have n4_:=qAm ((by rw [hg];exact(below_size qB111):w.heap.size≤gb340));have n5_:=qAm ((by rw [hg];exact(below_size qB111):w.heap.size≤gb340));clear HO0_1;clear HO1_1;clear HB;have HO0_1:=n0_;have HO1_1:=n1_;have HB:=n2_;have BK340:=n3_;have GW340:=n4_;have GE340:=n5_;clear n0_ n1_ n2_ n3_ n4_ n5_;clear hb hbox hg)|((with_reducible refine gate_dst (N:=3) rfl ?_);refine box_event qL (N:=3) qL (cs:=#[.int .i64 a1_0,.slice A1_1 l1_1.length c1_1]) (t:=26) qR ?_;intro gb341 hg w6 hbox hb;have n0_:=qAm (Kd.V_below (Kd.V_elderB qB194 gb341 (Nat.le_of_eq hg.symm)) hb);have n1_:=qAm (Kd.V_below (Kd.V_elderB qB195 gb341 (Nat.le_of_eq hg.symm)) hb);have n2_:=qAm (blk_below (g:=gb340) (o:=.cells #[.int .i64 a0_0,.slice A0_1 l0_1.length c0_1] 26 (0,0)) qB139 hb);have n3_:=qAm (below_step qB93 hb);have n4_:=qAm (hbox);have n5_:=qAm ((by rw [hg];exact(below_size qB93):w.heap.size≤gb341));have n6_:=qAm ((by rw [hg];exact(below_size qB93):w.heap.size≤gb341));have n7_:=qAm ((by rw [hg];exact Nat.ne_of_lt (blk_lt (g:=gb340) (o:=.cells #[.int .i64 a0_0,.slice A0_1 l0_1.length c0_1] 26 (0,0)) qB139):gb340≠gb341));have n8_:=qAm ((by rw [hg];exact Nat.ne_of_gt (blk_lt (g:=gb340) (o:=.cells #[.int .i64 a0_0,.slice A0_1 l0_1.length c0_1] 26 (0,0)) qB139):gb341≠gb340));clear HO0_1;clear HO1_1;clear BK340;clear HB;have HO0_1:=n0_;have HO1_1:=n1_;have BK340:=n2_;have HB:=n3_;have BK341:=n4_;have GW341:=n5_;have GE341:=n6_;have NB340_341:=n7_;have NB341_340:=n8_;clear n0_ n1_ n2_ n3_ n4_ n5_ n6_ n7_ n8_;clear hb hbox hg;have hnb7:=NB340_341.1;have hnc7:=NB341_340.1;have hcz8_0:w6.cell? ⟨gb340,0,none⟩=some (.int .i64 a0_0):=(blk_cell BK340.1 0).trans rfl;have hcz8_1:w6.cell? ⟨gb340,1,none⟩=some (.slice A0_1 l0_1.length c0_1):=(blk_cell BK340.1 1).trans rfl;have hfz8_0:=blk_frozen BK340.1 0;have hfz8_1:=blk_frozen BK340.1 1;have hcz9_0:w6.cell? ⟨gb341,0,none⟩=some (.int .i64 a1_0):=(blk_cell BK341.1 0).trans rfl;have hcz9_1:w6.cell? ⟨gb341,1,none⟩=some (.slice A1_1 l1_1.length c1_1):=(blk_cell BK341.1 1).trans rfl;have hfz9_0:=blk_frozen BK341.1 0;have hfz9_1:=blk_frozen BK341.1 1)|((with_reducible refine gate_dst (N:=9) rfl ?_);refine Kd.N_lit k26 _ 26 ?hg (N':=9) ?hd (xs:=([(⟨a0_0,l0_1⟩:S26),(⟨a1_0,l1_1⟩:S26)]:List (S26))) (inner:=[.int .i64 a0_0,.slice A0_1 l0_1.length c0_1,.int .i64 a1_0,.slice A1_1 l1_1.length c1_1]) (ok:=(fun k_=>((P0_1_ k_∨P1_1_ k_)∨w.heap.size≤k_)∧k_≠gb340∧k_≠gb341)) (okp:=(fun k_=>((P0_1_ k_∨P1_1_ k_)∨w.heap.size≤k_)∧k_≠gb340∧k_≠gb341)) ?hr ?hp (fun _ hk=>hk) ((show ∀k_,w6.heap.size≤k_→(fun k_=>((P0_1_ k_∨P1_1_ k_)∨w.heap.size≤k_)∧k_≠gb340∧k_≠gb341) k_ from fun k_ hk=>⟨(.inr (Nat.le_trans (below_size qB73) hk)),Kd.freshB (g:=gb340) (o:=.cells #[.int .i64 a0_0,.slice A0_1 l0_1.length c0_1] 26 (0,0)) qB139 k_ hk,Kd.freshB (g:=gb341) (o:=.cells #[.int .i64 a1_0,.slice A1_1 l1_1.length c1_1] 26 (0,0)) qB140 k_ hk⟩) _ (Nat.le_refl _)) (Below.refl _ _) (Nat.le_refl _) (by simp) ?_;(case hd=>rfl);(case hg=>rfl);(case hr=>first|(go_simp;done)|(go_simp;rfl));(case hp=>exact(Reps.c2 (show Kd.FK k26 _ _ (⟨a0_0,l0_1⟩:S26) [.int .i64 a0_0,.slice A0_1 l0_1.length c0_1] from (k26_mkF _ _ (⟨a0_0,l0_1⟩:S26) (Kd.V_reads' (Kd.V_mono (ok':=(fun k_=>((P0_1_ k_∨P1_1_ k_)∨w.heap.size≤k_)∧k_≠gb340∧k_≠gb341)) (HO0_1.1) (fun k_ hk=>⟨hk.1.1,⟨hk.1.2,hk.2⟩⟩))).2.1 (Kd.V_F (Kd.V_mono (ok':=(fun k_=>((P0_1_ k_∨P1_1_ k_)∨w.heap.size≤k_)∧k_≠gb340∧k_≠gb341)) (HO0_1.1) (fun k_ hk=>⟨hk.1.1,⟨hk.1.2,hk.2⟩⟩))))) (Reps.c2 (show Kd.FK k26 _ _ (⟨a1_0,l1_1⟩:S26) [.int .i64 a1_0,.slice A1_1 l1_1.length c1_1] from (k26_mkF _ _ (⟨a1_0,l1_1⟩:S26) (Kd.V_reads' (Kd.V_mono (ok':=(fun k_=>((P0_1_ k_∨P1_1_ k_)∨w.heap.size≤k_)∧k_≠gb340∧k_≠gb341)) (HO1_1.1) (fun k_ hk=>⟨hk.1.1,⟨hk.1.2,hk.2⟩⟩))).2.1 (Kd.V_F (Kd.V_mono (ok':=(fun k_=>((P0_1_ k_∨P1_1_ k_)∨w.heap.size≤k_)∧k_≠gb340∧k_≠gb341)) (HO1_1.1) (fun k_ hk=>⟨hk.1.1,⟨hk.1.2,hk.2⟩⟩))))) (Reps.none _ _))));intro v343 w10 ho11 hb hg_ hnew_;clear hg_ hnew_;(first|rw [← Ny342.1] at ho11|(simp only [Int.reduceToNat] at ho11;rw [← Ny342.1] at ho11));have n0_:=qAm (Kd.V_elder' qB194 (Kd.N_base ho11) hb);have n1_:=qAm (Kd.V_elder' qB195 (Kd.N_base ho11) hb);have n2_:=qAm (Kd.N_lower ho11 (below_size qB73));have n3_:=qAm (blk_below (g:=gb340) (o:=.cells #[.int .i64 a0_0,.slice A0_1 l0_1.length c0_1] 26 (0,0)) qB139 hb);have n4_:=qAm (blk_below (g:=gb341) (o:=.cells #[.int .i64 a1_0,.slice A1_1 l1_1.length c1_1] 26 (0,0)) qB140 hb);have n5_:=qAm (below_step qB73 hb);clear HO0_1;clear HO1_1;clear BK340;clear BK341;clear HB;have HO0_1:=n0_;have HO1_1:=n1_;have HO344:=n2_;have BK340:=n3_;have BK341:=n4_;have HB:=n5_;clear n0_ n1_ n2_ n3_ n4_ n5_;clear hb ho11;obtain⟨Ao12,co12,eo12⟩:=Kd.N_slice HO344.1;subst eo12)|((with_reducible refine gate_callee (f:=24) rfl ?_);refine goesL_ (some 10) rfl rfl Try.func24 (by kernel_rfl) rfl #[.slice Ao12 y342.length co12] rfl qB108 ?_;(with_reducible refine(spec_l09Code.calls k _ _ y342 t345 _ ?side1 ?side2 A3.1).mono ?_);(case side1=>repeat(first|exact(Kd.N_reads' HO344.1).2.2|(with_reducible refine Kd.C_alloc ?_ _)|(with_reducible refine Kd.C_drewN ?_ _)|(with_reducible refine Kd.C_drew ?_)));(case side2=>exact(Kd.N_reads' HO344.1).2.1);rintro e w13 ⟨rfl,hb⟩;refine⟨_,rfl,?_⟩;have n0_:=qAm (Kd.V_below qB194 hb);have n1_:=qAm (Kd.V_below qB195 hb);have n2_:=qAm (Kd.N_below qB196 hb);have n3_:=qAm (blk_below (g:=gb340) (o:=.cells #[.int .i64 a0_0,.slice A0_1 l0_1.length c0_1] 26 (0,0)) qB139 hb);have n4_:=qAm (blk_below (g:=gb341) (o:=.cells #[.int .i64 a1_0,.slice A1_1 l1_1.length c1_1] 26 (0,0)) qB140 hb);have n5_:=qAm (below_step qB73 hb);clear HO0_1;clear HO1_1;clear HO344;clear BK340;clear BK341;clear HB;have HO0_1:=n0_;have HO1_1:=n1_;have HO344:=n2_;have BK340:=n3_;have BK341:=n4_;have HB:=n5_;clear n0_ n1_ n2_ n3_ n4_ n5_;(try clear hb);(try clear hb2);(try clear hk);(try clear hi)))
 (try simp only [Act.put,qSa,qSb,qSc])
 go_cut [23] (fun v23 wc=>∃(kq:Nat) (x23_3:Bool),v23=.bool x23_3∧Aside0 (spec_CubicSymbol.j0 kq t345 x23_3 a0_0 l0_1 a1_0 l1_1=some (r1,r2))∧Aside0 (kq≤k)∧Aside0 (Kd.V (Kd.int .i64) 2 wc w.heap.size (fun k_=>((P0_1_ k_∨P1_1_ k_)∨w.heap.size≤k_)∧k_≠gb340∧k_≠gb341) (.slice A0_1 l0_1.length c0_1) l0_1)∧Aside0 (Kd.V (Kd.int .i64) 2 wc w.heap.size (fun k_=>((P0_1_ k_∨P1_1_ k_)∨w.heap.size≤k_)∧k_≠gb340∧k_≠gb341) (.slice A1_1 l1_1.length c1_1) l1_1)∧Aside0 (wc.heap[gb340]? =some (.cells #[.int .i64 a0_0,(.slice A0_1 l0_1.length c0_1)] 26 (0,0)))∧Aside0 (wc.heap[gb341]? =some (.cells #[.int .i64 a1_0,(.slice A1_1 l1_1.length c1_1)] 26 (0,0)))∧Aside0 (Below w.heap.size w wc))
 case first=>
  have H:=HC4.1;clear HC4
  by_cases c14:t345=0
  ·rw [if_pos c14] at H;have c14b0:(t345==0)=true:=beq_iff_eq.mpr c14;have c14b1:(t345 !=0)=false:=bne_eq_false_iff_eq.mpr c14;clear c14
   (first|rw [c14b0]|(simp only [i64_w,i32_w];rw [c14b0])|skip)
   replace H:=qOb H;obtain⟨t346,A150,H⟩:=H;replace H:(if t346=true then ((spec_l09Norm.f a1_0 l1_1).bind fun t347=>(spec_CubicSymbol.j0 k t345 ((Int.tmod t347 3)==0) a0_0 l0_1 a1_0 l1_1)) else (spec_CubicSymbol.j0 k t345 true a0_0 l0_1 a1_0 l1_1))=some (r1,r2):=H;have A15:=qAm A150;clear A150
   by_cases c16:t346=true
   ·subst c16;have H1:((spec_l09Norm.f a1_0 l1_1).bind fun t347=>(spec_CubicSymbol.j0 k t345 ((Int.tmod t347 3)==0) a0_0 l0_1 a1_0 l1_1))=some (r1,r2):=by rw [if_pos rfl] at H;exact H
    clear H;have H:=H1;clear H1;replace H:=qOb H;obtain⟨t347,A170,H⟩:=H;replace H:(spec_CubicSymbol.j0 k t345 ((Int.tmod t347 3)==0) a0_0 l0_1 a1_0 l1_1)=some (r1,r2):=H;have A17:=qAm A170;clear A170;have H':=qAm H;clear H;have hnb18:=NB341_340.1;have hnc18:=NB340_341.1;have hcz19_0:w13.cell? ⟨gb341,0,none⟩=some (.int .i64 a1_0):=(blk_cell BK341.1 0).trans rfl;have hcz19_1:w13.cell? ⟨gb341,1,none⟩=some (.slice A1_1 l1_1.length c1_1):=(blk_cell BK341.1 1).trans rfl;have hfz19_0:=blk_frozen BK341.1 0;have hfz19_1:=blk_frozen BK341.1 1;go_wp2_with (first|(go_at_call 39;(with_reducible refine(spec_l09Prime.calls k a1_0 _ _ l1_1 true _ ?side1 ?side2 A15.1).mono ?_);(case side1=>repeat(first|exact(Kd.V_reads' HO1_1.1).2.2|(with_reducible refine Kd.C_alloc ?_ _)|(with_reducible refine Kd.C_drewN ?_ _)|(with_reducible refine Kd.C_drew ?_)));(case side2=>exact(Kd.V_reads' HO1_1.1).2.1);rintro e w20 ⟨rfl,hb⟩;have n0_:=qAm (Kd.V_below qB194 hb);have n1_:=qAm (Kd.V_below qB195 hb);have n2_:=qAm (Kd.N_below qB196 hb);have n3_:=qAm (blk_below (g:=gb340) (o:=.cells #[.int .i64 a0_0,.slice A0_1 l0_1.length c0_1] 26 (0,0)) qB139 hb);have n4_:=qAm (blk_below (g:=gb341) (o:=.cells #[.int .i64 a1_0,.slice A1_1 l1_1.length c1_1] 26 (0,0)) qB140 hb);have n5_:=qAm (below_step qB73 hb);clear HO0_1;clear HO1_1;clear HO344;clear BK340;clear BK341;clear HB;have HO0_1:=n0_;have HO1_1:=n1_;have HO344:=n2_;have BK340:=n3_;have BK341:=n4_;have HB:=n5_;clear n0_ n1_ n2_ n3_ n4_ n5_;(try clear hb);(try clear hb2);(try clear hk);(try clear hi);have hcz21_0:w20.cell? ⟨gb341,0,none⟩=some (.int .i64 a1_0):=(blk_cell BK341.1 0).trans rfl;have hcz21_1:w20.cell? ⟨gb341,1,none⟩=some (.slice A1_1 l1_1.length c1_1):=(blk_cell BK341.1 1).trans rfl;have hfz21_0:=blk_frozen BK341.1 0;have hfz21_1:=blk_frozen BK341.1 1)|(go_at_call 25;(with_reducible refine(spec_l09Norm.calls a1_0 _ _ l1_1 t347 _ ?side1 ?side2 A17.1).mono ?_);(case side1=>repeat(first|exact(Kd.V_reads' HO1_1.1).2.2|(with_reducible refine Kd.C_alloc ?_ _)|(with_reducible refine Kd.C_drewN ?_ _)|(with_reducible refine Kd.C_drew ?_)));(case side2=>exact(Kd.V_reads' HO1_1.1).2.1);rintro e w22 ⟨rfl,hb⟩;have n0_:=qAm (Kd.V_below qB194 hb);have n1_:=qAm (Kd.V_below qB195 hb);have n2_:=qAm (Kd.N_below qB196 hb);have n3_:=qAm (blk_below (g:=gb340) (o:=.cells #[.int .i64 a0_0,.slice A0_1 l0_1.length c0_1] 26 (0,0)) qB139 hb);have n4_:=qAm (blk_below (g:=gb341) (o:=.cells #[.int .i64 a1_0,.slice A1_1 l1_1.length c1_1] 26 (0,0)) qB140 hb);have n5_:=qAm (below_step qB73 hb);clear HO0_1;clear HO1_1;clear HO344;clear BK340;clear BK341;clear HB;have HO0_1:=n0_;have HO1_1:=n1_;have HO344:=n2_;have BK340:=n3_;have BK341:=n4_;have HB:=n5_;clear n0_ n1_ n2_ n3_ n4_ n5_;(try clear hb);(try clear hb2);(try clear hk);(try clear hi)));go_meet
    case rel=>exact⟨_,(((Int.tmod t347 3)==0)),qB216,H',⟨by first|omega|exact Nat.le_refl _⟩,⟨by (with_reducible repeat(first|apply Kd.V_alloc|apply Kd.V_drewN|apply Kd.V_drew));exact Kd.V_mono HO0_1.1 (fun _ hk=>⟨hk.1.1.1,⟨hk.1.1.2,hk.1.2⟩⟩)⟩,⟨by (with_reducible repeat(first|apply Kd.V_alloc|apply Kd.V_drewN|apply Kd.V_drew));exact Kd.V_mono HO1_1.1 (fun _ hk=>⟨hk.1.1.1,⟨hk.1.1.2,hk.1.2⟩⟩)⟩,⟨by (with_reducible repeat(first|refine blk_drewN ?_ _|refine blk_drew ?_|refine blk_alloc ?_ _));exact BK340.1⟩,⟨by (with_reducible repeat(first|refine blk_drewN ?_ _|refine blk_drew ?_|refine blk_alloc ?_ _));exact BK341.1⟩,⟨by repeat(first|(with_reducible first|exact HB.1|apply below_alloc|apply pw_below_drewN|apply below_drew1|refine below_set ?_ GE340.1|refine below_set ?_ GE341.1)|exact HB.1)⟩⟩
   ·replace c16:=Bool.eq_false_iff.mpr c16;subst c16;have H1:(spec_CubicSymbol.j0 k t345 true a0_0 l0_1 a1_0 l1_1)=some (r1,r2):=by rw [if_neg (show ¬(false=true) by decide)] at H;exact H
    clear H;have H:=H1;clear H1;have H':=qAm H;clear H;have hnb23:=NB341_340.1;have hnc23:=NB340_341.1;have hcz24_0:w13.cell? ⟨gb341,0,none⟩=some (.int .i64 a1_0):=(blk_cell BK341.1 0).trans rfl;have hcz24_1:w13.cell? ⟨gb341,1,none⟩=some (.slice A1_1 l1_1.length c1_1):=(blk_cell BK341.1 1).trans rfl;have hfz24_0:=blk_frozen BK341.1 0;have hfz24_1:=blk_frozen BK341.1 1;go_wp2_with (first|(go_at_call 39;(with_reducible refine(spec_l09Prime.calls k a1_0 _ _ l1_1 false _ ?side1 ?side2 A15.1).mono ?_);(case side1=>repeat(first|exact(Kd.V_reads' HO1_1.1).2.2|(with_reducible refine Kd.C_alloc ?_ _)|(with_reducible refine Kd.C_drewN ?_ _)|(with_reducible refine Kd.C_drew ?_)));(case side2=>exact(Kd.V_reads' HO1_1.1).2.1);rintro e w25 ⟨rfl,hb⟩;have n0_:=qAm (Kd.V_below qB194 hb);have n1_:=qAm (Kd.V_below qB195 hb);have n2_:=qAm (Kd.N_below qB196 hb);have n3_:=qAm (blk_below (g:=gb340) (o:=.cells #[.int .i64 a0_0,.slice A0_1 l0_1.length c0_1] 26 (0,0)) qB139 hb);have n4_:=qAm (blk_below (g:=gb341) (o:=.cells #[.int .i64 a1_0,.slice A1_1 l1_1.length c1_1] 26 (0,0)) qB140 hb);have n5_:=qAm (below_step qB73 hb);clear HO0_1;clear HO1_1;clear HO344;clear BK340;clear BK341;clear HB;have HO0_1:=n0_;have HO1_1:=n1_;have HO344:=n2_;have BK340:=n3_;have BK341:=n4_;have HB:=n5_;clear n0_ n1_ n2_ n3_ n4_ n5_;(try clear hb);(try clear hb2);(try clear hk);(try clear hi)));go_meet
    case rel=>exact⟨_,(true),qB216,H',⟨by first|omega|exact Nat.le_refl _⟩,⟨by (with_reducible repeat(first|apply Kd.V_alloc|apply Kd.V_drewN|apply Kd.V_drew));exact Kd.V_mono HO0_1.1 (fun _ hk=>⟨hk.1.1.1,⟨hk.1.1.2,hk.1.2⟩⟩)⟩,⟨by (with_reducible repeat(first|apply Kd.V_alloc|apply Kd.V_drewN|apply Kd.V_drew));exact Kd.V_mono HO1_1.1 (fun _ hk=>⟨hk.1.1.1,⟨hk.1.1.2,hk.1.2⟩⟩)⟩,⟨by (with_reducible repeat(first|refine blk_drewN ?_ _|refine blk_drew ?_|refine blk_alloc ?_ _));exact BK340.1⟩,⟨by (with_reducible repeat(first|refine blk_drewN ?_ _|refine blk_drew ?_|refine blk_alloc ?_ _));exact BK341.1⟩,⟨by repeat(first|(with_reducible first|exact HB.1|apply below_alloc|apply pw_below_drewN|apply below_drew1|refine below_set ?_ GE340.1|refine below_set ?_ GE341.1)|exact HB.1)⟩⟩
  ·rw [if_neg c14] at H;have c14b0:(t345==0)=false:=beq_eq_false_iff_ne.mpr c14;have c14b1:(t345 !=0)=true:=bne_iff_ne.mpr c14
   (first|rw [c14b0]|(simp only [i64_w,i32_w];rw [c14b0])|skip)
   have H':=qAm H;clear H;go_wp2;go_meet
   case rel=>exact⟨_,(false),qB216,H',⟨by first|omega|exact Nat.le_refl _⟩,⟨by (with_reducible repeat(first|apply Kd.V_alloc|apply Kd.V_drewN|apply Kd.V_drew));exact Kd.V_mono HO0_1.1 (fun _ hk=>⟨hk.1.1.1,⟨hk.1.1.2,hk.1.2⟩⟩)⟩,⟨by (with_reducible repeat(first|apply Kd.V_alloc|apply Kd.V_drewN|apply Kd.V_drew));exact Kd.V_mono HO1_1.1 (fun _ hk=>⟨hk.1.1.1,⟨hk.1.1.2,hk.1.2⟩⟩)⟩,⟨by (with_reducible repeat(first|refine blk_drewN ?_ _|refine blk_drew ?_|refine blk_alloc ?_ _));exact BK340.1⟩,⟨by (with_reducible repeat(first|refine blk_drewN ?_ _|refine blk_drew ?_|refine blk_alloc ?_ _));exact BK341.1⟩,⟨by repeat(first|(with_reducible first|exact HB.1|apply below_alloc|apply pw_below_drewN|apply below_drew1|refine below_set ?_ GE340.1|refine below_set ?_ GE341.1)|exact HB.1)⟩⟩
 case rest=>
  clear HC4;try clear c1
  try clear c2
  try clear p2
  try clear c7
  try clear c14
  try clear c14b0
  try clear c14b1
  try clear c16
  try clear c18
  try clear c23
  try clear c24
  try clear hcz19_0
  try clear hcz19_1
  try clear hcz21_0
  try clear hcz21_1
  try clear hcz24_0
  try clear hcz24_1
  try clear hcz8_0
  try clear hcz8_1
  try clear hcz9_0
  try clear hcz9_1
  try clear hfz19_0
  try clear hfz19_1
  try clear hfz21_0
  try clear hfz21_1
  try clear hfz24_0
  try clear hfz24_1
  try clear hfz8_0
  try clear hfz8_1
  try clear hfz9_0
  try clear hfz9_1
  obtain⟨kq,x23_3,rfl,HA,HJ3,HO_341001,HO_342001,BK340,BK341,HB⟩:=hcut;cases kq with
  |zero=>exact absurd HA.1 (by simp [spec_CubicSymbol.j0])
  |succ kj3=>
   have H:=HA.1;clear HA;simp only [spec_CubicSymbol.j0] at H
   by_cases c26:x23_3=true
   ·subst c26;have H1:(if 5=0 then ((spec_l09Symbol.f kj3 a0_0 l0_1 a1_0 l1_1).bind fun t348=>(some (t348,0))) else (some (0,5)))=some (r1,r2):=by rw [if_pos rfl] at H;exact H
    clear H;have H:=H1;clear H1
    by_cases c27:5=0
    ·exact absurd c27 (by decide)
    ·rw [if_neg c27] at H;have c27b0:(5==0)=false:=beq_eq_false_iff_ne.mpr c27;have c27b1:(5 !=0)=true:=bne_iff_ne.mpr c27;simp only [Option.some.injEq,Prod.mk.injEq] at H;obtain⟨rfl,rfl⟩:=H;go_wp2;go_ret2;exact⟨by first|rfl|(simp [errW_none,errW_some] <;> rfl)|(simp [*,errW_none,errW_some] <;> rfl),by repeat(first|(with_reducible first|exact HB.1|apply below_alloc|apply pw_below_drewN|apply below_drew1|refine below_set ?_ GE340.1|refine below_set ?_ GE341.1)|exact HB.1)⟩
   ·replace c26:=Bool.eq_false_iff.mpr c26;subst c26;have H1:(if t345=0 then ((spec_l09Symbol.f kj3 a0_0 l0_1 a1_0 l1_1).bind fun t349=>(some (t349,0))) else (some (0,t345)))=some (r1,r2):=by rw [if_neg (show ¬(false=true) by decide)] at H;exact H
    clear H;have H:=H1;clear H1
    by_cases c33:t345=0
    ·rw [if_pos c33] at H;have c33b0:(t345==0)=true:=beq_iff_eq.mpr c33;have c33b1:(t345 !=0)=false:=bne_eq_false_iff_eq.mpr c33;clear c33;replace H:=qOb H;obtain⟨t349,A340,H⟩:=H;replace H:(some (t349,0))=some (r1,r2):=H;have A34:=qAm A340;clear A340;simp only [Option.some.injEq,Prod.mk.injEq] at H;obtain⟨rfl,rfl⟩:=H;have hnb35:=NB340_341.1;have hnc35:=NB341_340.1;have hcz36_0:wc.cell? ⟨gb340,0,none⟩=some (.int .i64 a0_0):=(blk_cell BK340.1 0).trans rfl;have hcz36_1:wc.cell? ⟨gb340,1,none⟩=some (.slice A0_1 l0_1.length c0_1):=(blk_cell BK340.1 1).trans rfl;have hfz36_0:=blk_frozen BK340.1 0;have hfz36_1:=blk_frozen BK340.1 1;have hcz37_0:wc.cell? ⟨gb341,0,none⟩=some (.int .i64 a1_0):=(blk_cell BK341.1 0).trans rfl;have hcz37_1:wc.cell? ⟨gb341,1,none⟩=some (.slice A1_1 l1_1.length c1_1):=(blk_cell BK341.1 1).trans rfl;have hfz37_0:=blk_frozen BK341.1 0;have hfz37_1:=blk_frozen BK341.1 1;go_wp2_with (first|((with_reducible refine gate_callee (f:=40) rfl ?_);refine goesL_ (some 29) rfl rfl Try.func40 (by kernel_rfl) rfl #[.agg #[.int .i64 a0_0,.slice A0_1 l0_1.length c0_1],.agg #[.int .i64 a1_0,.slice A1_1 l1_1.length c1_1]] rfl qB108 ?_;(with_reducible refine(spec_l09Symbol.calls kj3 a0_0 _ _ l0_1 a1_0 _ _ l1_1 t349 _ ?side1 ?side2 ?side3 ?side4 A34.1).mono ?_);(case side1=>repeat(first|exact(Kd.V_reads' HO_341001.1).2.2|(with_reducible refine Kd.C_alloc ?_ _)|(with_reducible refine Kd.C_drewN ?_ _)|(with_reducible refine Kd.C_drew ?_)));(case side2=>exact(Kd.V_reads' HO_341001.1).2.1);(case side3=>repeat(first|exact(Kd.V_reads' HO_342001.1).2.2|(with_reducible refine Kd.C_alloc ?_ _)|(with_reducible refine Kd.C_drewN ?_ _)|(with_reducible refine Kd.C_drew ?_)));(case side4=>exact(Kd.V_reads' HO_342001.1).2.1);rintro e w38 ⟨rfl,hb⟩;refine⟨_,rfl,?_⟩;have n0_:=qAm (Kd.V_below (by (with_reducible repeat(first|apply Kd.V_alloc|apply Kd.V_drewN|apply Kd.V_drew));exact HO_341001.1) hb);have n1_:=qAm (Kd.V_below (by (with_reducible repeat(first|apply Kd.V_alloc|apply Kd.V_drewN|apply Kd.V_drew));exact HO_342001.1) hb);have n2_:=qAm (blk_below (g:=gb340) (o:=.cells #[.int .i64 a0_0,.slice A0_1 l0_1.length c0_1] 26 (0,0)) qB139 hb);have n3_:=qAm (blk_below (g:=gb341) (o:=.cells #[.int .i64 a1_0,.slice A1_1 l1_1.length c1_1] 26 (0,0)) qB140 hb);have n4_:=qAm (below_step qB73 hb);clear HO_341001;clear HO_342001;clear BK340;clear BK341;clear HB;have HO_341001:=n0_;have HO_342001:=n1_;have BK340:=n2_;have BK341:=n3_;have HB:=n4_;clear n0_ n1_ n2_ n3_ n4_;(try clear hb);(try clear hb2);(try clear hk);(try clear hi)));go_ret2;exact⟨by first|rfl|(simp [errW_none,errW_some] <;> rfl)|(simp [*,errW_none,errW_some] <;> rfl),by repeat(first|(with_reducible first|exact HB.1|apply below_alloc|apply pw_below_drewN|apply below_drew1|refine below_set ?_ GE340.1|refine below_set ?_ GE341.1)|exact HB.1)⟩
    ·rw [if_neg c33] at H;have c33b0:(t345==0)=false:=beq_eq_false_iff_ne.mpr c33;have c33b1:(t345 !=0)=true:=bne_iff_ne.mpr c33;simp only [Option.some.injEq,Prod.mk.injEq] at H;obtain⟨rfl,rfl⟩:=H;go_wp2;go_ret2;exact⟨by first|rfl|(simp [errW_none,errW_some] <;> rfl)|(simp [*,errW_none,errW_some] <;> rfl),by repeat(first|(with_reducible first|exact HB.1|apply below_alloc|apply pw_below_drewN|apply below_drew1|refine below_set ?_ GE340.1|refine below_set ?_ GE341.1)|exact HB.1)⟩

-- NOT PRINTED: function 75 (slices_IndexFunc_int64_int64)

-- NOT PRINTED: function 68 (slices_ContainsFunc_int64_int64)

/-! ### impl_areSmall: function 58 -/
def impl_areSmall.f (l0:List Int) (a1:Int):Option (Bool):=some (l0.all fun n_=>decide (wrap64 (-a1)≤n_) && decide (n_≤a1))
-- HAND
theorem hsm_within (a0 a1 a2:Int) (w:World):
  Calls Try.prog 48 #[.int .i64 a0,.int .i64 a1,.int .i64 a2] w fun e w'=>e=.returned (.bool (decide (a1≤a0) && decide (a0≤a2)))∧Drawn0 w w':=by
 by_cases h1:a1≤a0 <;> by_cases h2:a0≤a2
 all_goals
  go_enter Try.func48,Try.ntmps48;go_wp2;go_ret;exact⟨by simp [*],Drawn0.refl _⟩

theorem hsm_cl (n m:Int) (B:Nat) (w:World) (hc:w.cell? ⟨B,0,none⟩=some (.int .i64 m)):
  Calls Try.prog 69 #[.int .i64 n,.pointer (some ⟨B,0,none⟩)] w fun e w'=>e=.returned (.bool (!(decide (wrap64 (-m)≤n) && decide (n≤m))))∧Drawn0 w w':=by
 go_enter Try.func69,Try.ntmps69;go_wp2_with (go_at_call 48;refine(hsm_within _ _ _ _).mono ?_;rintro e w' ⟨rfl,⟨nd,rfl⟩⟩);go_ret;exact⟨by simp,⟨_,rfl⟩⟩

def hsm_p (m n:Int):Bool:=decide (wrap64 (-m)≤n) && decide (n≤m)
def hsm_ix (m:Int) (l:List Int) (i:Int):Prop:=decide (0≤i)=!(l.all (hsm_p m))

theorem hsm_all {m:Int} {l:List Int} (h:∀j,j<l.length→hsm_p m (l.getD j 0)=true):l.all (hsm_p m)=true:=by
 rw [List.all_eq_true];intro x hx;obtain⟨j,hj,rfl⟩:=List.getElem_of_mem hx;have:=h j hj
 rwa [List.getD_eq_getElem?_getD,List.getElem?_eq_getElem hj] at this

theorem hsm_any {m:Int} {l:List Int} {j:Nat} (hj:j<l.length) (h:hsm_p m (l.getD j 0)=false):l.all (hsm_p m)=false:=by
 rw [Bool.eq_false_iff];intro h2;rw [List.all_eq_true] at h2;have:=h2 (l.getD j 0) (by rw [List.getD_eq_getElem?_getD,List.getElem?_eq_getElem hj];exact List.getElem_mem hj);rw [h] at this;cases this

theorem hsm_cl' (n m:Int) (B:Nat) (w:World) (b:Bool) (hc:w.cell? ⟨B,0,none⟩=some (.int .i64 m)) (hb:hsm_p m n=b):
  Calls Try.prog 69 #[.int .i64 n,.pointer (some ⟨B,0,none⟩)] w fun e w'=>e=.returned (.bool (!b))∧Drawn0 w w':=by
 subst hb;exact hsm_cl n m B w hc

set_option maxHeartbeats 1000000 in
theorem hsm_index (A:Option Addr) (c:Nat) (l:List Int) (m:Int) (B:Nat) (w:World) (hr:Kd.C (Kd.int .i64) w A l.length l) (hc:w.cell? ⟨B,0,none⟩=some (.int .i64 m)):
  Calls Try.prog 75 #[.slice A l.length c,.func (.func 69) #[] #[.pointer (some ⟨B,0,none⟩)]] w fun e w'=>∃i:Int,e=.returned (.int .i64 i)∧Aside0 (hsm_ix m l i)∧Drawn0 w w':=by
 have HR:=qAm hr;have HL:l.length≤9223372036854775807:=hr.2.1;clear hr;go_enter Try.func75,Try.ntmps75;go_wp2;go_loopg [8] (l.length+1) (fun kq v8 w'=>∃k:Nat,v8=.int .i64 k∧Aside0 (kq+k=l.length+1∧k≤l.length∧∀j,j<k→hsm_p m (l.getD j 0)=true)∧Drawn0 w w')
 case atStart=>exact⟨0,rfl,⟨by omega,by omega,fun j hj=>by omega⟩,Drawn0.refl _⟩
 case round=>
  obtain⟨k,rfl,HA,⟨m1,rfl⟩⟩:=hrel
  by_cases hlt:k<l.length
  ·obtain⟨ad,hA,hx⟩:=Kd.at_int HR.1 (k:Int) (by omega) (by omega);cases hA
   have hx':w.cell? (ad.add k)=some (.int .i64 (rd l k)):=by simpa using hx
   clear hx;cases hb:hsm_p m (rd l k) with
   |true=>
    have HB:=qAm hb;clear hb;go_wp2_with (go_at_call 69;refine(hsm_cl' _ _ _ _ true (by simpa using hc) HB.1).mono ?_;rintro e w' ⟨rfl,⟨nd,rfl⟩⟩);go_roundg (gk - 1)
    case measure=>have:=HA.1;omega
    case rel=>
     refine⟨k+1,by go_num,⟨by have:=HA.1;omega,by omega,fun j hj=>?_⟩,⟨_,rfl⟩⟩
     by_cases hj':j<k
     ·exact HA.1.2.2 j hj'
     ·obtain rfl:j=k:=by omega
      exact HB.1
   |false=>
    have HB:=qAm hb;clear hb;go_wp2_with (go_at_call 69;refine(hsm_cl' _ _ _ _ false (by simpa using hc) HB.1).mono ?_;rintro e w' ⟨rfl,⟨nd,rfl⟩⟩);go_ret;exact⟨(k:Int),rfl,⟨by unfold hsm_ix;rw [hsm_any hlt HB.1];simp⟩,⟨_,rfl⟩⟩
  ·go_wp2;go_ret;exact⟨-1,rfl,⟨by unfold hsm_ix;rw [hsm_all (fun j hj=>HA.1.2.2 j (by omega))];simp⟩,⟨_,rfl⟩⟩

theorem hsm_contains (A:Option Addr) (c:Nat) (l:List Int) (m:Int) (B:Nat) (w:World) (hr:Kd.C (Kd.int .i64) w A l.length l) (hc:w.cell? ⟨B,0,none⟩=some (.int .i64 m)):
  Calls Try.prog 68 #[.slice A l.length c,.func (.func 69) #[] #[.pointer (some ⟨B,0,none⟩)]] w fun e w'=>e=.returned (.bool (!(l.all (hsm_p m))))∧Drawn0 w w':=by
 have HR:=qAm hr;clear hr;go_enter Try.func68,Try.ntmps68;go_wp2_with (go_at_call 75;refine(hsm_index _ _ l m B _ HR.1 hc).mono ?_;rintro e w' ⟨i,rfl,hi,⟨nd,rfl⟩⟩);go_ret;exact⟨by have:=hi.1;unfold hsm_ix at this;rw [← this];rfl,⟨_,rfl⟩⟩
set_option maxHeartbeats 8000000 in
set_option maxRecDepth 100000 in
theorem impl_areSmall.calls (A0:Option Addr) (c0:Nat) (l0:List Int) (a1:Int) (r:Bool) (w:World) (hr0:Kd.C (Kd.int .i64) w A0 l0.length l0) (hc0:l0.length≤c0) (h:impl_areSmall.f l0 a1=some r):
  Calls Try.prog 58 #[.slice A0 l0.length c0,.int .i64 a1] w fun e w'=>e=.returned (.bool r)∧Below w.heap.size w w':=by
 have HR:=qAm hr0;clear hr0;obtain rfl:r=l0.all (hsm_p a1):=(Option.some.inj h).symm;clear h;have hmf:∀(fn:Fn) (first cap:Array Value) (w:World),(Instr.makeFunc fn first cap).run Try.prog w=.ok (.func fn first cap) w:=fun _ _ _ _=>rfl
 go_enter Try.func58,Try.ntmps58;go_wp2_with (go_at_call 68;refine(hsm_contains _ _ l0 a1 w.heap.size _ (Kd.C_below HR.1 (below_alloc (Below.refl _ _) _)) (by simp)).mono ?_;rintro e w' ⟨rfl,⟨nd,rfl⟩⟩);go_ret;exact⟨by simp,pw_below_drewN (below_alloc (Below.refl _ _) _) _⟩

/-! ### impl_within: function 48 -/
def impl_within.f (a0:Int) (a1:Int) (a2:Int):Option (Bool):=if a1≤a0 then (some (decide (a0≤a2))) else (some false)
set_option maxHeartbeats 8000000 in
set_option maxRecDepth 100000 in
theorem impl_within.calls (a0:Int) (a1:Int) (a2:Int) (r:Bool) (w:World) (h:impl_within.f a0 a1 a2=some r):
  Calls Try.prog 48 #[.int .i64 a0,.int .i64 a1,.int .i64 a2] w fun e w'=>e=.returned (.bool r)∧Drawn0 w w':=by
 have H:(if a1≤a0 then (some (decide (a0≤a2))) else (some false))=some r:=h;clear h
 by_cases c4:a1≤a0
 ·rw [if_pos c4] at H;have c4b0:decide (a1≤a0)=true:=decide_eq_true c4;clear c4;obtain rfl:=Option.some.inj H;go_enter Try.func48,Try.ntmps48;go_wp2;go_ret;exact⟨by first|rfl|(simp;done)|(simp [*];done),by repeat(first|exact Drawn0.refl _|apply Drawn0.step)⟩
 ·rw [if_neg c4] at H;have c4b0:decide (a1≤a0)=false:=decide_eq_false c4;clear c4;obtain rfl:=Option.some.inj H;go_enter Try.func48,Try.ntmps48;go_wp2;go_ret;exact⟨by first|rfl|(simp;done)|(simp [*];done),by repeat(first|exact Drawn0.refl _|apply Drawn0.step)⟩

/-! ### impl_isOrder: function 73 -/
def impl_isOrder.f (a0:Int):Option (Bool):=(impl_within.f a0 1 16).bind fun t350=>(some t350)
set_option maxHeartbeats 8000000 in
set_option maxRecDepth 100000 in
theorem impl_isOrder.calls (a0:Int) (r:Bool) (w:World) (h:impl_isOrder.f a0=some r):
  Calls Try.prog 73 #[.int .i64 a0] w fun e w'=>e=.returned (.bool r)∧Drawn0 w w':=by
 have H:((impl_within.f a0 1 16).bind fun t350=>(some t350))=some r:=h;clear h;replace H:=qOb H;obtain⟨t350,A20,H⟩:=H;replace H:(some t350)=some r:=H;have A2:=qAm A20;clear A20;obtain rfl:=Option.some.inj H;go_enter Try.func73,Try.ntmps73;go_wp2_with (first|((with_reducible refine gate_callee (f:=48) rfl ?_);refine goesL_ (some 4) rfl rfl Try.func48 (by kernel_rfl) rfl #[.int .i64 a0,.int .i64 1,.int .i64 16] rfl qB108 ?_;(with_reducible refine(impl_within.calls a0 1 16 t350 _ A2.1).mono ?_);rintro e w' ⟨rfl,⟨nd,rfl⟩⟩;refine⟨_,rfl,?_⟩));go_ret;exact⟨by first|rfl|(simp;done)|(simp [*];done),by repeat(first|exact Drawn0.refl _|apply Drawn0.step)⟩

/-! ### impl_size: function 82 -/
def impl_size.f (a0:Int):Option (Int):=some (mx a0 (wrap64 (-a0)))
set_option maxHeartbeats 8000000 in
set_option maxRecDepth 100000 in
theorem impl_size.calls (a0:Int) (r:Int) (w:World) (h:impl_size.f a0=some r):
  Calls Try.prog 82 #[.int .i64 a0] w fun e w'=>e=.returned (.int .i64 r)∧Below w.heap.size w w':=by
 have HB:=qAm (Below.refl w.heap.size w);have H:(some (mx a0 (wrap64 (-a0))))=some r:=h;clear h;obtain⟨ji2,hji2⟩:∃j_:Int,(mx a0 (wrap64 (-a0)))=j_:=⟨_,rfl⟩
 replace H:(some ji2)=some r:=by first|(rw [hji2] at H;exact H)|(simp only [hji2] at H ⊢;exact H)
 have hji2_:(if a0<(wrap64 (-a0)) then (wrap64 (-a0)) else a0)=ji2:=hji2;obtain rfl:=Option.some.inj H;go_enter Try.func82,Try.ntmps82;go_wp2;go_ret;exact⟨by first|rfl|(simp [errW_none,errW_some] <;> rfl)|(simp only [← hji2];first|rfl|(simp [errW_none,errW_some] <;> rfl))|(simp [*,errW_none,errW_some] <;> rfl),by repeat(first|(with_reducible first|exact HB.1|apply below_alloc|apply pw_below_drewN|apply below_drew1)|exact HB.1)⟩

/-! ### impl_gcd: function 80 -/
def impl_gcd.l0:Nat→Int→Int→Option (Int)
 |0,_,_=>none
 |k+1,x0,x1=>if x1 > 0 then (if x1=0 then (none) else (impl_gcd.l0 k x1 (Int.tmod x0 x1))) else (some x0)
def impl_gcd.f (k:Nat) (a0:Int) (a1:Int):Option (Int):=(impl_size.f a0).bind fun t351=>((impl_size.f a1).bind fun t352=>(impl_gcd.l0 k t351 t352))
theorem impl_gcd.mono_l:∀k,(∀y0 y1,LeO (impl_gcd.l0 k y0 y1) (impl_gcd.l0 (k+1) y0 y1))
 |0=>fun _ _ r h=>by simp [impl_gcd.l0] at h
 |k+1=>by
  have ih0:=impl_gcd.mono_l k
  ·intro y0 y1;unfold impl_gcd.l0;repeat' first
   |(with_reducible exact ih0 _ _)
   |(with_reducible exact LeO.refl _)
   |(with_reducible exact LeO.none _)
   |(with_reducible refine LeO.ite ?_ ?_)
   |(with_reducible refine LeO.bind ?_ (fun _=>?_))
   |exact ih0 _ _
   |exact LeO.none _
   |refine LeO.ite ?_ ?_
   |refine LeO.bind ?_ (fun _=>?_)
theorem impl_gcd.mono:∀a0 a1 k,LeO (impl_gcd.f k a0 a1) (impl_gcd.f (k+1) a0 a1):=by
 intro a0 a1 k;have ih0:=impl_gcd.mono_l k;unfold impl_gcd.f;repeat' first
   |(with_reducible exact ih0 _ _)
   |(with_reducible exact LeO.refl _)
   |(with_reducible exact LeO.none _)
   |(with_reducible refine LeO.ite ?_ ?_)
   |(with_reducible refine LeO.bind ?_ (fun _=>?_))
   |exact ih0 _ _
   |exact LeO.none _
   |refine LeO.ite ?_ ?_
   |refine LeO.bind ?_ (fun _=>?_)
set_option maxHeartbeats 8000000 in
set_option maxRecDepth 100000 in
theorem impl_gcd.calls (k:Nat) (a0:Int) (a1:Int) (r:Int) (w:World) (h:impl_gcd.f k a0 a1=some r):
  Calls Try.prog 80 #[.int .i64 a0,.int .i64 a1] w fun e w'=>e=.returned (.int .i64 r)∧Below w.heap.size w w':=by
 have HB:=qAm (Below.refl w.heap.size w);have H:((impl_size.f a0).bind fun t351=>((impl_size.f a1).bind fun t352=>(impl_gcd.l0 k t351 t352)))=some r:=h;clear h;replace H:=qOb H;obtain⟨t351,A30,H⟩:=H;replace H:((impl_size.f a1).bind fun t352=>(impl_gcd.l0 k t351 t352))=some r:=H;have A3:=qAm A30;clear A30;replace H:=qOb H;obtain⟨t352,A40,H⟩:=H;replace H:(impl_gcd.l0 k t351 t352)=some r:=H;have A4:=qAm A40;clear A40;have H':=qAm H;clear H;go_enter Try.func80,Try.ntmps80;go_wp2_with (first|(go_at_call 82;(with_reducible refine(impl_size.calls a0 t351 _ A3.1).mono ?_);rintro e w5 ⟨rfl,hb⟩;have n0_:=qAm (below_step qB111 hb);clear HB;have HB:=n0_;clear n0_;(try clear hb);(try clear hb2);(try clear hk);(try clear hi))|(go_at_call 82;(with_reducible refine(impl_size.calls a1 t352 _ A4.1).mono ?_);rintro e w6 ⟨rfl,hb⟩;have n0_:=qAm (below_step qB111 hb);clear HB;have HB:=n0_;clear n0_;(try clear hb);(try clear hb2);(try clear hk);(try clear hi)));repeat(go_quiet (first|(go_at_call 82;(with_reducible refine(impl_size.calls a0 t351 _ A3.1).mono ?_);rintro e w5 ⟨rfl,hb⟩;have n0_:=qAm (below_step qB111 hb);clear HB;have HB:=n0_;clear n0_;(try clear hb);(try clear hb2);(try clear hk);(try clear hi))|(go_at_call 82;(with_reducible refine(impl_size.calls a1 t352 _ A4.1).mono ?_);rintro e w6 ⟨rfl,hb⟩;have n0_:=qAm (below_step qB111 hb);clear HB;have HB:=n0_;clear n0_;(try clear hb);(try clear hb2);(try clear hk);(try clear hi)));try go_wp2_with (first|(go_at_call 82;(with_reducible refine(impl_size.calls a0 t351 _ A3.1).mono ?_);rintro e w5 ⟨rfl,hb⟩;have n0_:=qAm (below_step qB111 hb);clear HB;have HB:=n0_;clear n0_;(try clear hb);(try clear hb2);(try clear hk);(try clear hi))|(go_at_call 82;(with_reducible refine(impl_size.calls a1 t352 _ A4.1).mono ?_);rintro e w6 ⟨rfl,hb⟩;have n0_:=qAm (below_step qB111 hb);clear HB;have HB:=n0_;clear n0_;(try clear hb);(try clear hb2);(try clear hk);(try clear hi))))
 try simp only [Act.put,qSa,qSc,qSb]
 go_loopg [0,1] k (fun kq v0 v1 w'=>∃(x0_1:Int) (x1_1:Int),v0=.int .i64 x0_1∧v1=.int .i64 x1_1∧Aside0 (impl_gcd.l0 kq x0_1 x1_1=some r)∧Aside0 (kq≤k)∧Aside0 (Below w.heap.size w w'))
 case atStart=>exact⟨(t351),(t352),qB216,qB216,H',⟨Nat.le_refl _⟩,⟨by repeat(first|(with_reducible first|exact HB.1|apply below_alloc|apply pw_below_drewN|apply below_drew1)|exact HB.1)⟩⟩
 case round=>
  clear H';try clear p2
  obtain⟨x0_1,x1_1,rfl,rfl,HA,HK1,HB⟩:=hrel;cases gk with
  |zero=>exact absurd HA.1 (by simp [impl_gcd.l0])
  |succ k1=>
   have H:=HA.1;clear HA;simp only [impl_gcd.l0] at H
   by_cases c7:x1_1 > 0
   ·rw [if_pos c7] at H;have c7b0:decide (0<x1_1)=true:=decide_eq_true c7;clear c7
    by_cases c8:x1_1=0
    ·rw [if_pos c8] at H;exact absurd H (by simp)
    ·rw [if_neg c8] at H;have c8b0:(x1_1==0)=false:=beq_eq_false_iff_ne.mpr c8;have c8b1:(x1_1 !=0)=true:=bne_iff_ne.mpr c8;have H':=qAm H;clear H;go_wp2;repeat(go_quiet (fail);try go_wp2)
     (first|go_roundg k1|((try simp only [add_plain] at *);go_roundg k1))
     case measure=>have:=HK1.1;omega
     case rel=>exact⟨(x1_1),(Int.tmod x0_1 x1_1),qB216,qB216,H',⟨by have:=HK1.1;omega⟩,⟨by repeat(first|(with_reducible first|exact HB.1|apply below_alloc|apply pw_below_drewN|apply below_drew1)|exact HB.1)⟩⟩
   ·rw [if_neg c7] at H;have c7b0:decide (0<x1_1)=false:=decide_eq_false c7;clear c7;obtain rfl:=Option.some.inj H;go_wp2;repeat(go_quiet (fail);try go_wp2)
    go_ret;exact⟨by first|rfl|(simp [errW_none,errW_some] <;> rfl)|(simp [*,errW_none,errW_some] <;> rfl),by repeat(first|(with_reducible first|exact HB.1|apply below_alloc|apply pw_below_drewN|apply below_drew1)|exact HB.1)⟩

/-! ### impl_totient: function 74 -/
def impl_totient.l0:Nat→Int→Int→Int→Option (Int)
 |0,_,_,_=>none
 |k+1,x0,x3,x4=>if x4≤x0 then ((impl_gcd.f k x4 x0).bind fun t353=>(if t353=1 then (impl_totient.l0 k x0 (wrap64 (x3+1)) (wrap64 (x4+1))) else (impl_totient.l0 k x0 x3 (wrap64 (x4+1))))) else (some x3)
def impl_totient.f (k:Nat) (a0:Int):Option (Int):=impl_totient.l0 k a0 0 1
theorem impl_totient.mono_l:∀k,(∀y0 y1 y2,LeO (impl_totient.l0 k y0 y1 y2) (impl_totient.l0 (k+1) y0 y1 y2))
 |0=>fun _ _ _ r h=>by simp [impl_totient.l0] at h
 |k+1=>by
  have ih0:=impl_totient.mono_l k
  ·intro y0 y1 y2;unfold impl_totient.l0;repeat' first
   |(with_reducible exact ih0 _ _ _)
   |(with_reducible exact impl_gcd.mono _ _ _)
   |(with_reducible exact LeO.refl _)
   |(with_reducible exact LeO.none _)
   |(with_reducible refine LeO.ite ?_ ?_)
   |(with_reducible refine LeO.bind ?_ (fun _=>?_))
   |exact ih0 _ _ _
   |exact impl_gcd.mono _ _ _
   |exact LeO.none _
   |refine LeO.ite ?_ ?_
   |refine LeO.bind ?_ (fun _=>?_)
theorem impl_totient.mono:∀a0 k,LeO (impl_totient.f k a0) (impl_totient.f (k+1) a0):=by
 intro a0 k;have ih0:=impl_totient.mono_l k;unfold impl_totient.f;repeat' first
   |(with_reducible exact ih0 _ _ _)
   |(with_reducible exact impl_gcd.mono _ _ _)
   |(with_reducible exact LeO.refl _)
   |(with_reducible exact LeO.none _)
   |(with_reducible refine LeO.ite ?_ ?_)
   |(with_reducible refine LeO.bind ?_ (fun _=>?_))
   |exact ih0 _ _ _
   |exact impl_gcd.mono _ _ _
   |exact LeO.none _
   |refine LeO.ite ?_ ?_
   |refine LeO.bind ?_ (fun _=>?_)
set_option maxHeartbeats 8000000 in
set_option maxRecDepth 100000 in
theorem impl_totient.calls (k:Nat) (a0:Int) (r:Int) (w:World) (h:impl_totient.f k a0=some r):
  Calls Try.prog 74 #[.int .i64 a0] w fun e w'=>e=.returned (.int .i64 r)∧Below w.heap.size w w':=by
 have HB:=qAm (Below.refl w.heap.size w);have H:(impl_totient.l0 k a0 0 1)=some r:=h;clear h;have H':=qAm H;clear H;go_enter Try.func74,Try.ntmps74;go_wp2;try simp only [Act.put,qSa,qSc,qSb]
 go_loopg [3,4] k (fun kq v3 v4 w'=>∃(x3_1:Int) (x4_1:Int),v3=.int .i64 x3_1∧v4=.int .i64 x4_1∧Aside0 (impl_totient.l0 kq a0 x3_1 x4_1=some r)∧Aside0 (kq≤k)∧Aside0 (Below w.heap.size w w'))
 case atStart=>exact⟨(0),(1),qB216,qB216,H',⟨Nat.le_refl _⟩,⟨by repeat(first|(with_reducible first|exact HB.1|apply below_alloc|apply pw_below_drewN|apply below_drew1)|exact HB.1)⟩⟩
 case round=>
  clear H';obtain⟨x3_1,x4_1,rfl,rfl,HA,HK1,HB⟩:=hrel;cases gk with
  |zero=>exact absurd HA.1 (by simp [impl_totient.l0])
  |succ k1=>
   have H:=HA.1;clear HA;simp only [impl_totient.l0] at H
   by_cases c2:x4_1≤a0
   ·rw [if_pos c2] at H;have c2b0:decide (x4_1≤a0)=true:=decide_eq_true c2;clear c2;replace H:=qOb H;obtain⟨t353,A30,H⟩:=H;replace H:(if t353=1 then (impl_totient.l0 k1 a0 (wrap64 (x3_1+1)) (wrap64 (x4_1+1))) else (impl_totient.l0 k1 a0 x3_1 (wrap64 (x4_1+1))))=some r:=H;have A3:=qAm A30;clear A30
    by_cases c4:t353=1
    ·rw [if_pos c4] at H;have c4b0:(t353==1)=true:=beq_iff_eq.mpr c4;have c4b1:(t353 !=1)=false:=bne_eq_false_iff_eq.mpr c4;clear c4;have H':=qAm H;clear H;go_wp2_with (first|((with_reducible refine gate_callee (f:=80) rfl ?_);refine goesL_ (some 12) rfl rfl Try.func80 (by kernel_rfl) rfl #[.int .i64 x4_1,.int .i64 a0] rfl qB108 ?_;(with_reducible refine(impl_gcd.calls k1 x4_1 a0 t353 _ A3.1).mono ?_);rintro e w5 ⟨rfl,hb⟩;refine⟨_,rfl,?_⟩;have n0_:=qAm (below_step qB111 hb);clear HB;have HB:=n0_;clear n0_;(try clear hb);(try clear hb2);(try clear hk);(try clear hi)))
     (first|go_roundg k1|((try simp only [add_plain] at *);go_roundg k1))
     case measure=>have:=HK1.1;omega
     case rel=>exact⟨(wrap64 (x3_1+1)),(wrap64 (x4_1+1)),qB216,qB216,H',⟨by have:=HK1.1;omega⟩,⟨by repeat(first|(with_reducible first|exact HB.1|apply below_alloc|apply pw_below_drewN|apply below_drew1)|exact HB.1)⟩⟩
    ·rw [if_neg c4] at H;have c4b0:(t353==1)=false:=beq_eq_false_iff_ne.mpr c4;have c4b1:(t353 !=1)=true:=bne_iff_ne.mpr c4;have H':=qAm H;clear H;go_wp2_with (first|((with_reducible refine gate_callee (f:=80) rfl ?_);refine goesL_ (some 12) rfl rfl Try.func80 (by kernel_rfl) rfl #[.int .i64 x4_1,.int .i64 a0] rfl qB108 ?_;(with_reducible refine(impl_gcd.calls k1 x4_1 a0 t353 _ A3.1).mono ?_);rintro e w6 ⟨rfl,hb⟩;refine⟨_,rfl,?_⟩;have n0_:=qAm (below_step qB111 hb);clear HB;have HB:=n0_;clear n0_;(try clear hb);(try clear hb2);(try clear hk);(try clear hi)))
     (first|go_roundg k1|((try simp only [add_plain] at *);go_roundg k1))
     case measure=>have:=HK1.1;omega
     case rel=>exact⟨(x3_1),(wrap64 (x4_1+1)),qB216,qB216,H',⟨by have:=HK1.1;omega⟩,⟨by repeat(first|(with_reducible first|exact HB.1|apply below_alloc|apply pw_below_drewN|apply below_drew1)|exact HB.1)⟩⟩
   ·rw [if_neg c2] at H;have c2b0:decide (x4_1≤a0)=false:=decide_eq_false c2;clear c2;obtain rfl:=Option.some.inj H;go_wp2;go_ret;exact⟨by first|rfl|(simp [errW_none,errW_some] <;> rfl)|(simp [*,errW_none,errW_some] <;> rfl),by repeat(first|(with_reducible first|exact HB.1|apply below_alloc|apply pw_below_drewN|apply below_drew1)|exact HB.1)⟩

end Go.Proofs.Ytejpliodhnglbaa.PFnExactCubicSymbol
