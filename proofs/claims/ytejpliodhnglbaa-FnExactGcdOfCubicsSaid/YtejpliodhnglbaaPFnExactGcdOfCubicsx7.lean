/- The functions that the law reaches, as plain functions, each with the proof that the program comes to it; no condition. Written by a program of this session (wip/mp.py) over the printing of the kit; what is marked HAND is told by hand. -/
import Derived.Test.YtejpliodhnglbaaPFnExactGcdOfCubicsx0
import Derived.Test.YtejpliodhnglbaaPFnExactGcdOfCubicsx4
import Derived.Test.YtejpliodhnglbaaPFnExactGcdOfCubicsx5
import Derived.Test.YtejpliodhnglbaaPFnExactGcdOfCubicsx6
namespace Go.Proofs.Ytejpliodhnglbaa.PFnExactGcdOfCubics
open Go.RowKit Go.Proofs.YtejpliodhnglbaaW.PrintWords Go.Proofs.YtejpliodhnglbaaW.PrintLast Go.Proofs.YtejpliodhnglbaaW.PrintMore
attribute [local go_sem] max2_int min2_int max_two min_two max_three min_three max_four min_four   -- for this text's walks alone
set_option linter.unusedVariables false
set_option linter.unusedSimpArgs false

/-! ### spec_l09Gcd: function 36 -/
def spec_l09Gcd.l0:Nat→Int→List Int→Int→List Int→Option (Int×List Int)
 |0,_,_,_,_=>none
 |k+1,x225000,x225001,x226000,x226001=>(spec_l09Norm.f x226000 x226001).bind fun t227=>(if t227=0 then ((spec_l09Chosen.f k x225000 x225001).bind fun bt228=>(some (bt228.1,bt228.2))) else ((spec_l09Divide.f x225000 x225001 x226000 x226001).bind fun bt232=>(spec_l09Gcd.l0 k x226000 x226001 bt232.2.2.1 bt232.2.2.2)))
def spec_l09Gcd.f (k:Nat) (a0_0:Int) (l0_1:List Int) (a1_0:Int) (l1_1:List Int):Option (Int×List Int):=spec_l09Gcd.l0 k a0_0 l0_1 a1_0 l1_1
theorem spec_l09Gcd.mono_l:∀k,(∀y0 y1 y2 y3,LeO (spec_l09Gcd.l0 k y0 y1 y2 y3) (spec_l09Gcd.l0 (k+1) y0 y1 y2 y3))
 |0=>fun _ _ _ _ r h=>by simp [spec_l09Gcd.l0] at h
 |k+1=>by
  have ih0:=spec_l09Gcd.mono_l k
  ·intro y0 y1 y2 y3;unfold spec_l09Gcd.l0;repeat' first
   |(with_reducible exact ih0 _ _ _ _)
   |(with_reducible exact spec_l09Chosen.mono _ _ _)
   |(with_reducible exact LeO.refl _)
   |(with_reducible exact LeO.none _)
   |(with_reducible refine LeO.ite ?_ ?_)
   |(with_reducible refine LeO.bind ?_ (fun _=>?_))
   |exact ih0 _ _ _ _
   |exact spec_l09Chosen.mono _ _ _
   |exact LeO.none _
   |refine LeO.ite ?_ ?_
   |refine LeO.bind ?_ (fun _=>?_)
theorem spec_l09Gcd.mono:∀a0 a1 a2 a3 k,LeO (spec_l09Gcd.f k a0 a1 a2 a3) (spec_l09Gcd.f (k+1) a0 a1 a2 a3):=by
 intro a0 a1 a2 a3 k;have ih0:=spec_l09Gcd.mono_l k;unfold spec_l09Gcd.f;repeat' first
   |(with_reducible exact ih0 _ _ _ _)
   |(with_reducible exact spec_l09Chosen.mono _ _ _)
   |(with_reducible exact LeO.refl _)
   |(with_reducible exact LeO.none _)
   |(with_reducible refine LeO.ite ?_ ?_)
   |(with_reducible refine LeO.bind ?_ (fun _=>?_))
   |exact ih0 _ _ _ _
   |exact spec_l09Chosen.mono _ _ _
   |exact LeO.none _
   |refine LeO.ite ?_ ?_
   |refine LeO.bind ?_ (fun _=>?_)
set_option maxHeartbeats 8000000 in
set_option maxRecDepth 100000 in
theorem spec_l09Gcd.calls (k:Nat) (a0_0:Int) (P0_1_:Nat→Prop) (A0_1:Option Addr) (c0_1:Nat) (l0_1:List Int) (a1_0:Int) (P1_1_:Nat→Prop) (A1_1:Option Addr) (c1_1:Nat) (l1_1:List Int) (r1:Int) (r2:List Int) (w:World) (hs0_1:Kd.V (Kd.int .i64) 2 w w.heap.size (fun k_=>P0_1_ k_) (.slice A0_1 l0_1.length c0_1) l0_1) (hs1_1:Kd.V (Kd.int .i64) 2 w w.heap.size (fun k_=>P1_1_ k_) (.slice A1_1 l1_1.length c1_1) l1_1) (h:spec_l09Gcd.f k a0_0 l0_1 a1_0 l1_1=some (r1,r2)):
  Calls Try.prog 36 #[.agg #[.int .i64 a0_0,.slice A0_1 l0_1.length c0_1],.agg #[.int .i64 a1_0,.slice A1_1 l1_1.length c1_1]] w fun e w'=>∃v1_:Value,e=.returned (.agg #[.int .i64 r1,v1_])∧Kd.R (Kd.int .i64) 2 w' w.heap.size (fun k_=>(w.heap.size≤k_)) v1_ r2∧Below w.heap.size w w':=by
 have hu26:=Try.underlying26;have HO0_1:=qAm (show Kd.V (Kd.int .i64) 2 w w.heap.size (fun k_=>((P0_1_ k_∨P1_1_ k_)∨w.heap.size≤k_)) (.slice A0_1 l0_1.length c0_1) l0_1 from Kd.V_mono hs0_1 (fun k_ hk=>.inl (.inl hk)));have HO1_1:=qAm (show Kd.V (Kd.int .i64) 2 w w.heap.size (fun k_=>((P0_1_ k_∨P1_1_ k_)∨w.heap.size≤k_)) (.slice A1_1 l1_1.length c1_1) l1_1 from Kd.V_mono hs1_1 (fun k_ hk=>.inl (.inr hk)));have HB:=qAm (Below.refl w.heap.size w);have H:(spec_l09Gcd.l0 k a0_0 l0_1 a1_0 l1_1)=some (r1,r2):=h;clear h;have H':=qAm H;clear H;go_enter Try.func36,Try.ntmps36;go_wp2_with (first|((with_reducible refine gate_dst (N:=2) rfl ?_);refine box_event ?hg (N:=2) ?hd (cs:=#[.int .i64 a0_0,.slice A0_1 l0_1.length c0_1]) (t:=26) ?hr ?_;(case hd=>rfl);(case hg=>rfl);(case hr=>first|(go_simp;done)|(go_simp;rfl));intro gb224 hg w3 hbox hb;have n0_:=qAm (Kd.V_below (Kd.V_elderB qB192 gb224 (Nat.le_of_eq hg.symm)) hb);have n1_:=qAm (Kd.V_below (Kd.V_elderB qB194 gb224 (Nat.le_of_eq hg.symm)) hb);have n2_:=qAm (below_step qB115 hb);have n3_:=qAm (hbox);have n4_:=qAm ((by rw [hg];exact(below_size qB115):w.heap.size≤gb224));have n5_:=qAm ((by rw [hg];exact(below_size qB115):w.heap.size≤gb224));clear HO0_1;clear HO1_1;clear HB;have HO0_1:=n0_;have HO1_1:=n1_;have HB:=n2_;have BK224:=n3_;have GW224:=n4_;have GE224:=n5_;clear n0_ n1_ n2_ n3_ n4_ n5_;clear hb hbox hg)|((with_reducible refine gate_dst (N:=3) rfl ?_);refine box_event ?hg (N:=3) ?hd (cs:=#[.int .i64 a1_0,.slice A1_1 l1_1.length c1_1]) (t:=26) ?hr ?_;(case hd=>rfl);(case hg=>rfl);(case hr=>first|(go_simp;done)|(go_simp;rfl));intro gb225 hg w4 hbox hb;have n0_:=qAm (Kd.V_below (Kd.V_elderB qB192 gb225 (Nat.le_of_eq hg.symm)) hb);have n1_:=qAm (Kd.V_below (Kd.V_elderB qB194 gb225 (Nat.le_of_eq hg.symm)) hb);have n2_:=qAm (blk_below (g:=gb224) (o:=.cells #[.int .i64 a0_0,.slice A0_1 l0_1.length c0_1] 26 (0,0)) qB135 hb);have n3_:=qAm (below_step qB93 hb);have n4_:=qAm (hbox);have n5_:=qAm ((by rw [hg];exact(below_size qB93):w.heap.size≤gb225));have n6_:=qAm ((by rw [hg];exact(below_size qB93):w.heap.size≤gb225));have n7_:=qAm ((by rw [hg];exact Nat.ne_of_lt (blk_lt (g:=gb224) (o:=.cells #[.int .i64 a0_0,.slice A0_1 l0_1.length c0_1] 26 (0,0)) qB135):gb224≠gb225));have n8_:=qAm ((by rw [hg];exact Nat.ne_of_gt (blk_lt (g:=gb224) (o:=.cells #[.int .i64 a0_0,.slice A0_1 l0_1.length c0_1] 26 (0,0)) qB135):gb225≠gb224));clear HO0_1;clear HO1_1;clear BK224;clear HB;have HO0_1:=n0_;have HO1_1:=n1_;have BK224:=n2_;have HB:=n3_;have BK225:=n4_;have GW225:=n5_;have GE225:=n6_;have NB224_225:=n7_;have NB225_224:=n8_;clear n0_ n1_ n2_ n3_ n4_ n5_ n6_ n7_ n8_;clear hb hbox hg)|((with_reducible refine gate_dst (N:=4) rfl ?_);refine box_event ?hg (N:=4) ?hd (cs:=#[.int .i64 0,.slice none 0 0]) (t:=26) ?hr ?_;(case hd=>rfl);(case hg=>rfl);(case hr=>first|(go_simp;done)|(go_simp;rfl));intro gb226 hg w5 hbox hb;have n0_:=qAm (Kd.V_below (Kd.V_elderB qB192 gb226 (Nat.le_of_eq hg.symm)) hb);have n1_:=qAm (Kd.V_below (Kd.V_elderB qB194 gb226 (Nat.le_of_eq hg.symm)) hb);have n2_:=qAm (blk_below (g:=gb224) (o:=.cells #[.int .i64 a0_0,.slice A0_1 l0_1.length c0_1] 26 (0,0)) qB135 hb);have n3_:=qAm (blk_below (g:=gb225) (o:=.cells #[.int .i64 a1_0,.slice A1_1 l1_1.length c1_1] 26 (0,0)) qB136 hb);have n4_:=qAm (below_step qB72 hb);have n5_:=qAm (hbox);have n6_:=qAm ((by rw [hg];exact(below_size qB72):w.heap.size≤gb226));have n7_:=qAm ((by rw [hg];exact(below_size qB72):w.heap.size≤gb226));have n8_:=qAm ((by rw [hg];exact Nat.ne_of_lt (blk_lt (g:=gb224) (o:=.cells #[.int .i64 a0_0,.slice A0_1 l0_1.length c0_1] 26 (0,0)) qB135):gb224≠gb226));have n9_:=qAm ((by rw [hg];exact Nat.ne_of_gt (blk_lt (g:=gb224) (o:=.cells #[.int .i64 a0_0,.slice A0_1 l0_1.length c0_1] 26 (0,0)) qB135):gb226≠gb224));have n10_:=qAm ((by rw [hg];exact Nat.ne_of_lt (blk_lt (g:=gb225) (o:=.cells #[.int .i64 a1_0,.slice A1_1 l1_1.length c1_1] 26 (0,0)) qB136):gb225≠gb226));have n11_:=qAm ((by rw [hg];exact Nat.ne_of_gt (blk_lt (g:=gb225) (o:=.cells #[.int .i64 a1_0,.slice A1_1 l1_1.length c1_1] 26 (0,0)) qB136):gb226≠gb225));clear HO0_1;clear HO1_1;clear BK224;clear BK225;clear HB;have HO0_1:=n0_;have HO1_1:=n1_;have BK224:=n2_;have BK225:=n3_;have HB:=n4_;have BK226:=n5_;have GW226:=n6_;have GE226:=n7_;have NB224_226:=n8_;have NB226_224:=n9_;have NB225_226:=n10_;have NB226_225:=n11_;clear n0_ n1_ n2_ n3_ n4_ n5_ n6_ n7_ n8_ n9_ n10_ n11_;clear hb hbox hg));try simp only [Act.put,qSa,qSc,qSb]
 go_loopg [] k (fun kq w'=>∃(x225000_1:Int) (x225001_1:List Int) (x226000_1:Int) (x226001_1:List Int) (u225001:Value) (u226001:Value),Aside0 (spec_l09Gcd.l0 kq x225000_1 x225001_1 x226000_1 x226001_1=some (r1,r2))∧Aside0 (kq≤k)∧Aside0 (Kd.V (Kd.int .i64) 2 w' w.heap.size (fun k_=>((P0_1_ k_∨P1_1_ k_)∨w.heap.size≤k_)∧k_≠gb224∧k_≠gb225∧k_≠gb226) u225001 x225001_1)∧Aside0 (Kd.V (Kd.int .i64) 2 w' w.heap.size (fun k_=>((P0_1_ k_∨P1_1_ k_)∨w.heap.size≤k_)∧k_≠gb224∧k_≠gb225∧k_≠gb226) u226001 x226001_1)∧Aside0 (w'.heap[gb224]? =some (.cells #[.int .i64 x225000_1,u225001] 26 (0,0)))∧Aside0 (w'.heap[gb225]? =some (.cells #[.int .i64 x226000_1,u226001] 26 (0,0)))∧Aside0 (w'.heap[gb226]? =some (.cells #[.int .i64 0,(.slice none 0 0)] 26 (0,0)))∧Aside0 (Below w.heap.size w w'))
 case atStart=>exact⟨(a0_0),(l0_1),(a1_0),(l1_1),(.slice A0_1 l0_1.length c0_1),(.slice A1_1 l1_1.length c1_1),H',⟨Nat.le_refl _⟩,⟨by (with_reducible repeat(first|apply Kd.V_alloc|apply Kd.V_drewN|apply Kd.V_drew));exact Kd.V_mono HO0_1.1 (fun _ hk=>⟨hk.1.1.1,⟨hk.1.1.2,⟨hk.1.2,hk.2⟩⟩⟩)⟩,⟨by (with_reducible repeat(first|apply Kd.V_alloc|apply Kd.V_drewN|apply Kd.V_drew));exact Kd.V_mono HO1_1.1 (fun _ hk=>⟨hk.1.1.1,⟨hk.1.1.2,⟨hk.1.2,hk.2⟩⟩⟩)⟩,⟨by (with_reducible repeat(first|refine blk_drewN ?_ _|refine blk_drew ?_|refine blk_alloc ?_ _));exact BK224.1⟩,⟨by (with_reducible repeat(first|refine blk_drewN ?_ _|refine blk_drew ?_|refine blk_alloc ?_ _));exact BK225.1⟩,⟨by (with_reducible repeat(first|refine blk_drewN ?_ _|refine blk_drew ?_|refine blk_alloc ?_ _));exact BK226.1⟩,⟨by repeat(first|(with_reducible first|exact HB.1|apply below_alloc|apply pw_below_drewN|apply below_drew1|refine below_set ?_ GE224.1|refine below_set ?_ GE225.1|refine below_set ?_ GE226.1)|exact HB.1)⟩⟩
 case round=>
  clear H';try clear c1
  try clear p2
  try clear c3
  obtain⟨x225000_1,x225001_1,x226000_1,x226001_1,u225001,u226001,HA,HK1,HO_225001,HO_226001,BK224,BK225,BK226,HB⟩:=hrel;cases gk with
  |zero=>exact absurd HA.1 (by simp [spec_l09Gcd.l0])
  |succ k1=>
   have H:=HA.1;clear HA;simp only [spec_l09Gcd.l0] at H;replace H:=qOb H;obtain⟨t227,A60,H⟩:=H;replace H:(if t227=0 then ((spec_l09Chosen.f k1 x225000_1 x225001_1).bind fun bt228=>(some (bt228.1,bt228.2))) else ((spec_l09Divide.f x225000_1 x225001_1 x226000_1 x226001_1).bind fun bt232=>(spec_l09Gcd.l0 k1 x226000_1 x226001_1 bt232.2.2.1 bt232.2.2.2)))=some (r1,r2):=H;have A6:=qAm A60;clear A60
   by_cases c7:t227=0
   ·rw [if_pos c7] at H;have c7b0:(t227==0)=true:=beq_iff_eq.mpr c7;have c7b1:(t227 !=0)=false:=bne_eq_false_iff_eq.mpr c7;clear c7;replace H:=qOb H;obtain⟨⟨t228,t229⟩,A80,H⟩:=H;replace H:(some (t228,t229))=some (r1,r2):=H;have A8:=qAm A80;clear A80;simp only [Option.some.injEq,Prod.mk.injEq] at H;obtain⟨rfl,rfl⟩:=H;have hnb9:=NB225_224.1;have hnc9:=NB224_225.1;have hnb10:=NB225_226.1;have hnc10:=NB226_225.1;have hcz11_0:wr.cell? ⟨gb225,0,none⟩=some (.int .i64 x226000_1):=(blk_cell BK225.1 0).trans rfl;have hcz11_1:wr.cell? ⟨gb225,1,none⟩=some (u226001):=(blk_cell BK225.1 1).trans rfl;have hfz11_0:=blk_frozen BK225.1 0;have hfz11_1:=blk_frozen BK225.1 1;obtain⟨Ao12,co12,eo12⟩:=Kd.V_slice HO_226001.1;subst eo12;go_wp2_with (first|((with_reducible refine gate_callee (f:=25) rfl ?_);refine goesL_ (some 8) rfl rfl Try.func25 (by kernel_rfl) rfl #[.agg #[.int .i64 x226000_1,.slice Ao12 x226001_1.length co12]] rfl qB112 ?_;(with_reducible refine(spec_l09Norm.calls x226000_1 _ _ x226001_1 t227 _ ?side1 ?side2 A6.1).mono ?_);(case side1=>repeat(first|exact(Kd.V_reads' HO_226001.1).2.2|(with_reducible refine Kd.C_alloc ?_ _)|(with_reducible refine Kd.C_drewN ?_ _)|(with_reducible refine Kd.C_drew ?_)));(case side2=>exact(Kd.V_reads' HO_226001.1).2.1);rintro e w13 ⟨rfl,hb⟩;refine⟨_,rfl,?_⟩;have n0_:=qAm (Kd.V_below qB177 hb);have n1_:=qAm (Kd.V_below qB178 hb);have n2_:=qAm (blk_below (g:=gb224) (o:=.cells #[.int .i64 x225000_1,u225001] 26 (0,0)) qB135 hb);have n3_:=qAm (blk_below (g:=gb225) (o:=.cells #[.int .i64 x226000_1,.slice Ao12 x226001_1.length co12] 26 (0,0)) qB136 hb);have n4_:=qAm (blk_below (g:=gb226) (o:=.cells #[.int .i64 0,.slice none 0 0] 26 (0,0)) qB137 hb);have n5_:=qAm (below_step qB53 hb);clear HO_225001;clear HO_226001;clear BK224;clear BK225;clear BK226;clear HB;have HO_225001:=n0_;have HO_226001:=n1_;have BK224:=n2_;have BK225:=n3_;have BK226:=n4_;have HB:=n5_;clear n0_ n1_ n2_ n3_ n4_ n5_;(try clear hb);(try clear hb2);(try clear hk);(try clear hi);have hnb14:=NB224_226.1;have hnc14:=NB226_224.1;have hcz15_0:w13.cell? ⟨gb224,0,none⟩=some (.int .i64 x225000_1):=(blk_cell BK224.1 0).trans rfl;have hcz15_1:w13.cell? ⟨gb224,1,none⟩=some (u225001):=(blk_cell BK224.1 1).trans rfl;have hfz15_0:=blk_frozen BK224.1 0;have hfz15_1:=blk_frozen BK224.1 1;obtain⟨Ao16,co16,eo16⟩:=Kd.V_slice HO_225001.1;subst eo16)|((with_reducible refine gate_callee (f:=59) rfl ?_);refine goesL_ (some 19) rfl rfl Try.func59 (by kernel_rfl) rfl #[.agg #[.int .i64 x225000_1,.slice Ao16 x225001_1.length co16]] rfl qB112 ?_;(with_reducible refine(spec_l09Chosen.calls k1 x225000_1 (fun k_=>(((P0_1_ k_∨P1_1_ k_)∨w.heap.size≤k_)∧(k_≠gb224∧(k_≠gb225∧k_≠gb226)))) _ _ x225001_1 t228 t229 _ ?side1 A8.1).mono ?_);(case side1=>exact HO_225001.1);rintro e w17 ⟨v230,rfl,ho0,hb⟩;refine⟨_,rfl,?_⟩;have n0_:=qAm (Kd.V_elder' qB177 (Kd.R_base ho0) hb);have n1_:=qAm (Kd.V_elder' qB178 (Kd.R_base ho0) hb);have n2_:=qAm (Kd.R_lower (Kd.R_newM (M:=fun k_=>(w.heap.size≤k_)) (Kd.R_mono (ok':=fun k_=>True) ho0 (fun _ hk_=>trivial)) (below_size qB53) (fun k_ h_=>h_)) (below_size qB53));have n3_:=qAm (blk_below (g:=gb224) (o:=.cells #[.int .i64 x225000_1,.slice Ao16 x225001_1.length co16] 26 (0,0)) qB135 hb);have n4_:=qAm (blk_below (g:=gb225) (o:=.cells #[.int .i64 x226000_1,.slice Ao12 x226001_1.length co12] 26 (0,0)) qB136 hb);have n5_:=qAm (blk_below (g:=gb226) (o:=.cells #[.int .i64 0,.slice none 0 0] 26 (0,0)) qB137 hb);have n6_:=qAm (below_step qB53 hb);clear HO_225001;clear HO_226001;clear BK224;clear BK225;clear BK226;clear HB;have HO_225001:=n0_;have HO_226001:=n1_;have HO231:=n2_;have BK224:=n3_;have BK225:=n4_;have BK226:=n5_;have HB:=n6_;clear n0_ n1_ n2_ n3_ n4_ n5_ n6_;(try clear hb);(try clear hb2);(try clear hk);(try clear hi);(try clear ho0);have hcz18_0:w17.cell? ⟨gb226,0,none⟩=some (.int .i64 0):=(blk_cell BK226.1 0).trans rfl;have hcz18_1:w17.cell? ⟨gb226,1,none⟩=some (.slice none 0 0):=(blk_cell BK226.1 1).trans rfl;have hfz18_0:=blk_frozen BK226.1 0;have hfz18_1:=blk_frozen BK226.1 1;obtain⟨Ao19,co19,eo19⟩:=Kd.R_slice HO231.1;subst eo19));refine bodyPost_ret (results_cell_row rfl _ _ gb226 26 #[.int .i64 t228,.slice Ao19 t229.length co19] (0,0) _ rfl (by (with_reducible repeat(first|refine blk_drewN ?_ _|refine blk_drew ?_|refine blk_alloc ?_ _));refine blk_put (cs:=#[.int .i64 t228,.slice none 0 0]) ?_ 1 _ rfl;(with_reducible repeat(first|refine blk_drewN ?_ _|refine blk_drew ?_|refine blk_alloc ?_ _));refine blk_put (cs:=#[.int .i64 0,.slice none 0 0]) ?_ 0 _ rfl;(with_reducible repeat(first|refine blk_drewN ?_ _|refine blk_drew ?_|refine blk_alloc ?_ _));exact BK226.1) Try.underlying26 rfl (by kernel_rfl)) rfl ?_;exact⟨_,by first|rfl|(simp [errW_none,errW_some] <;> rfl)|(simp [*,errW_none,errW_some] <;> rfl),by (with_reducible repeat(first|apply Kd.R_alloc|apply Kd.R_drewN|apply Kd.R_drew));exact Kd.R_mono (Kd.R_far (p:=⟨gb226,1,none⟩) (Kd.R_far (p:=⟨gb226,0,none⟩) (Kd.R_types HO231.1 BK226.1 (by decide)) (fun _ hk=>hk.2) (.int .i64 t228)) (fun _ hk=>hk.2) (.slice Ao19 t229.length co19)) (fun _ hk=>hk.1.1),by repeat(first|(with_reducible first|exact HB.1|apply below_alloc|apply pw_below_drewN|apply below_drew1|refine below_set ?_ GE224.1|refine below_set ?_ GE225.1|refine below_set ?_ GE226.1)|exact HB.1)⟩
   ·rw [if_neg c7] at H;have c7b0:(t227==0)=false:=beq_eq_false_iff_ne.mpr c7;have c7b1:(t227 !=0)=true:=bne_iff_ne.mpr c7;replace H:=qOb H;obtain⟨⟨t232,t233,t236,t237⟩,A200,H⟩:=H;replace H:(spec_l09Gcd.l0 k1 x226000_1 x226001_1 t236 t237)=some (r1,r2):=H;have A20:=qAm A200;clear A200;have H':=qAm H;clear H;have hnb21:=NB225_224.1;have hnc21:=NB224_225.1;have hnb22:=NB225_226.1;have hnc22:=NB226_225.1;have hcz23_0:wr.cell? ⟨gb225,0,none⟩=some (.int .i64 x226000_1):=(blk_cell BK225.1 0).trans rfl;have hcz23_1:wr.cell? ⟨gb225,1,none⟩=some (u226001):=(blk_cell BK225.1 1).trans rfl;have hfz23_0:=blk_frozen BK225.1 0;have hfz23_1:=blk_frozen BK225.1 1;obtain⟨Ao24,co24,eo24⟩:=Kd.V_slice HO_226001.1;subst eo24;go_wp2_with (first|((with_reducible refine gate_callee (f:=25) rfl ?_);refine goesL_ (some 8) rfl rfl Try.func25 (by kernel_rfl) rfl #[.agg #[.int .i64 x226000_1,.slice Ao24 x226001_1.length co24]] rfl qB112 ?_;(with_reducible refine(spec_l09Norm.calls x226000_1 _ _ x226001_1 t227 _ ?side1 ?side2 A6.1).mono ?_);(case side1=>repeat(first|exact(Kd.V_reads' HO_226001.1).2.2|(with_reducible refine Kd.C_alloc ?_ _)|(with_reducible refine Kd.C_drewN ?_ _)|(with_reducible refine Kd.C_drew ?_)));(case side2=>exact(Kd.V_reads' HO_226001.1).2.1);rintro e w25 ⟨rfl,hb⟩;refine⟨_,rfl,?_⟩;have n0_:=qAm (Kd.V_below qB177 hb);have n1_:=qAm (Kd.V_below qB178 hb);have n2_:=qAm (blk_below (g:=gb224) (o:=.cells #[.int .i64 x225000_1,u225001] 26 (0,0)) qB135 hb);have n3_:=qAm (blk_below (g:=gb225) (o:=.cells #[.int .i64 x226000_1,.slice Ao24 x226001_1.length co24] 26 (0,0)) qB136 hb);have n4_:=qAm (blk_below (g:=gb226) (o:=.cells #[.int .i64 0,.slice none 0 0] 26 (0,0)) qB137 hb);have n5_:=qAm (below_step qB53 hb);clear HO_225001;clear HO_226001;clear BK224;clear BK225;clear BK226;clear HB;have HO_225001:=n0_;have HO_226001:=n1_;have BK224:=n2_;have BK225:=n3_;have BK226:=n4_;have HB:=n5_;clear n0_ n1_ n2_ n3_ n4_ n5_;(try clear hb);(try clear hb2);(try clear hk);(try clear hi);have hnb26:=NB224_226.1;have hnc26:=NB226_224.1;have hcz27_0:w25.cell? ⟨gb224,0,none⟩=some (.int .i64 x225000_1):=(blk_cell BK224.1 0).trans rfl;have hcz27_1:w25.cell? ⟨gb224,1,none⟩=some (u225001):=(blk_cell BK224.1 1).trans rfl;have hfz27_0:=blk_frozen BK224.1 0;have hfz27_1:=blk_frozen BK224.1 1;have hcz28_0:w25.cell? ⟨gb225,0,none⟩=some (.int .i64 x226000_1):=(blk_cell BK225.1 0).trans rfl;have hcz28_1:w25.cell? ⟨gb225,1,none⟩=some (.slice Ao24 x226001_1.length co24):=(blk_cell BK225.1 1).trans rfl;have hfz28_0:=blk_frozen BK225.1 0;have hfz28_1:=blk_frozen BK225.1 1;obtain⟨Ao29,co29,eo29⟩:=Kd.V_slice HO_225001.1;subst eo29)|((with_reducible refine gate_callee (f:=26) rfl ?_);refine goesL_ (some 13) rfl rfl Try.func26 (by kernel_rfl) rfl #[.agg #[.int .i64 x225000_1,.slice Ao29 x225001_1.length co29],.agg #[.int .i64 x226000_1,.slice Ao24 x226001_1.length co24]] rfl qB112 ?_;(with_reducible refine(spec_l09Divide.calls x225000_1 _ _ x225001_1 x226000_1 _ _ x226001_1 t232 t233 t236 t237 _ ?side1 ?side2 ?side3 ?side4 A20.1).mono ?_);(case side1=>repeat(first|exact(Kd.V_reads' HO_225001.1).2.2|(with_reducible refine Kd.C_alloc ?_ _)|(with_reducible refine Kd.C_drewN ?_ _)|(with_reducible refine Kd.C_drew ?_)));(case side2=>exact(Kd.V_reads' HO_225001.1).2.1);(case side3=>repeat(first|exact(Kd.V_reads' HO_226001.1).2.2|(with_reducible refine Kd.C_alloc ?_ _)|(with_reducible refine Kd.C_drewN ?_ _)|(with_reducible refine Kd.C_drew ?_)));(case side4=>exact(Kd.V_reads' HO_226001.1).2.1);rintro e w30 ⟨v234,v238,rfl,ho0,ho1,hb⟩;refine⟨_,rfl,?_⟩;have n0_:=qAm (Kd.V_mono (Kd.V_told (Kd.V_told (Kd.V_old qB177 hb) (Kd.R_base ho0)) (Kd.R_base ho1)) (fun _ h_=>h_.1));have n1_:=qAm (Kd.V_mono (Kd.V_told (Kd.V_told (Kd.V_old qB178 hb) (Kd.R_base ho0)) (Kd.R_base ho1)) (fun _ h_=>h_.1));have n2_:=qAm (Kd.R_lower (Kd.R_newM (M:=fun k_=>(w.heap.size≤k_)) ho0 (below_size qB53) (fun k_ h_=>h_)) (below_size qB53));have n3_:=qAm (Kd.R_lower (Kd.R_newM (M:=fun k_=>(w.heap.size≤k_)) ho1 (below_size qB53) (fun k_ h_=>h_)) (below_size qB53));have n4_:=qAm (blk_below (g:=gb224) (o:=.cells #[.int .i64 x225000_1,.slice Ao29 x225001_1.length co29] 26 (0,0)) qB135 hb);have n5_:=qAm (blk_below (g:=gb225) (o:=.cells #[.int .i64 x226000_1,.slice Ao24 x226001_1.length co24] 26 (0,0)) qB136 hb);have n6_:=qAm (blk_below (g:=gb226) (o:=.cells #[.int .i64 0,.slice none 0 0] 26 (0,0)) qB137 hb);have n7_:=qAm (below_step qB53 hb);clear HO_225001;clear HO_226001;clear BK224;clear BK225;clear BK226;clear HB;have HO_225001:=n0_;have HO_226001:=n1_;have HO235:=n2_;have HO239:=n3_;have BK224:=n4_;have BK225:=n5_;have BK226:=n6_;have HB:=n7_;clear n0_ n1_ n2_ n3_ n4_ n5_ n6_ n7_;(try clear hb);(try clear hb2);(try clear hk);(try clear hi);(try clear ho0);(try clear ho1))|((with_reducible refine gate_dst (N:=5) rfl ?_);refine box_event ?hg (N:=5) ?hd (cs:=#[.int .i64 0,.slice none 0 0]) (t:=26) ?hr ?_;(case hd=>rfl);(case hg=>rfl);(case hr=>first|(go_simp;done)|(go_simp;rfl));intro gb240 hg w31 hbox hb;have n0_:=qAm (Kd.V_below (Kd.V_elderB qB177 gb240 (Nat.le_of_eq hg.symm)) hb);have n1_:=qAm (Kd.V_below (Kd.V_elderB qB178 gb240 (Nat.le_of_eq hg.symm)) hb);have n2_:=qAm (Kd.R_below qB195 hb);have n3_:=qAm (Kd.R_below qB196 hb);have n4_:=qAm (blk_below (g:=gb224) (o:=.cells #[.int .i64 x225000_1,.slice Ao29 x225001_1.length co29] 26 (0,0)) qB135 hb);have n5_:=qAm (blk_below (g:=gb225) (o:=.cells #[.int .i64 x226000_1,.slice Ao24 x226001_1.length co24] 26 (0,0)) qB136 hb);have n6_:=qAm (blk_below (g:=gb226) (o:=.cells #[.int .i64 0,.slice none 0 0] 26 (0,0)) qB137 hb);have n7_:=qAm (below_step qB53 hb);have n8_:=qAm (hbox);have n9_:=qAm ((by rw [hg];exact(below_size qB53):w.heap.size≤gb240));have n10_:=qAm ((by rw [hg];exact(below_size qB53):w.heap.size≤gb240));have n11_:=qAm ((by rw [hg];exact Nat.ne_of_lt (blk_lt (g:=gb224) (o:=.cells #[.int .i64 x225000_1,.slice Ao29 x225001_1.length co29] 26 (0,0)) qB135):gb224≠gb240));have n12_:=qAm ((by rw [hg];exact Nat.ne_of_gt (blk_lt (g:=gb224) (o:=.cells #[.int .i64 x225000_1,.slice Ao29 x225001_1.length co29] 26 (0,0)) qB135):gb240≠gb224));have n13_:=qAm ((by rw [hg];exact Nat.ne_of_lt (blk_lt (g:=gb225) (o:=.cells #[.int .i64 x226000_1,.slice Ao24 x226001_1.length co24] 26 (0,0)) qB136):gb225≠gb240));have n14_:=qAm ((by rw [hg];exact Nat.ne_of_gt (blk_lt (g:=gb225) (o:=.cells #[.int .i64 x226000_1,.slice Ao24 x226001_1.length co24] 26 (0,0)) qB136):gb240≠gb225));have n15_:=qAm ((by rw [hg];exact Nat.ne_of_lt (blk_lt (g:=gb226) (o:=.cells #[.int .i64 0,.slice none 0 0] 26 (0,0)) qB137):gb226≠gb240));have n16_:=qAm ((by rw [hg];exact Nat.ne_of_gt (blk_lt (g:=gb226) (o:=.cells #[.int .i64 0,.slice none 0 0] 26 (0,0)) qB137):gb240≠gb226));clear HO_225001;clear HO_226001;clear HO235;clear HO239;clear BK224;clear BK225;clear BK226;clear HB;have HO_225001:=n0_;have HO_226001:=n1_;have HO235:=n2_;have HO239:=n3_;have BK224:=n4_;have BK225:=n5_;have BK226:=n6_;have HB:=n7_;have BK240:=n8_;have GW240:=n9_;have GE240:=n10_;have NB224_240:=n11_;have NB240_224:=n12_;have NB225_240:=n13_;have NB240_225:=n14_;have NB226_240:=n15_;have NB240_226:=n16_;clear n0_ n1_ n2_ n3_ n4_ n5_ n6_ n7_ n8_ n9_ n10_ n11_ n12_ n13_ n14_ n15_ n16_;clear hb hbox hg)|((with_reducible refine gate_dst (N:=6) rfl ?_);refine box_event ?hg (N:=6) ?hd (cs:=#[.int .i64 0,.slice none 0 0]) (t:=26) ?hr ?_;(case hd=>rfl);(case hg=>rfl);(case hr=>first|(go_simp;done)|(go_simp;rfl));intro gb241 hg w32 hbox hb;have n0_:=qAm (Kd.V_below (Kd.V_elderB qB177 gb241 (Nat.le_of_eq hg.symm)) hb);have n1_:=qAm (Kd.V_below (Kd.V_elderB qB178 gb241 (Nat.le_of_eq hg.symm)) hb);have n2_:=qAm (Kd.R_below qB195 hb);have n3_:=qAm (Kd.R_below qB196 hb);have n4_:=qAm (blk_below (g:=gb224) (o:=.cells #[.int .i64 x225000_1,.slice Ao29 x225001_1.length co29] 26 (0,0)) qB135 hb);have n5_:=qAm (blk_below (g:=gb225) (o:=.cells #[.int .i64 x226000_1,.slice Ao24 x226001_1.length co24] 26 (0,0)) qB136 hb);have n6_:=qAm (blk_below (g:=gb226) (o:=.cells #[.int .i64 0,.slice none 0 0] 26 (0,0)) qB137 hb);have n7_:=qAm (blk_below (g:=gb240) (o:=.cells #[.int .i64 0,.slice none 0 0] 26 (0,0)) qB138 hb);have n8_:=qAm (below_step qB44 hb);have n9_:=qAm (hbox);have n10_:=qAm ((by rw [hg];exact(below_size qB44):w.heap.size≤gb241));have n11_:=qAm ((by rw [hg];exact(below_size qB44):w.heap.size≤gb241));have n12_:=qAm ((by rw [hg];exact Nat.ne_of_lt (blk_lt (g:=gb224) (o:=.cells #[.int .i64 x225000_1,.slice Ao29 x225001_1.length co29] 26 (0,0)) qB135):gb224≠gb241));have n13_:=qAm ((by rw [hg];exact Nat.ne_of_gt (blk_lt (g:=gb224) (o:=.cells #[.int .i64 x225000_1,.slice Ao29 x225001_1.length co29] 26 (0,0)) qB135):gb241≠gb224));have n14_:=qAm ((by rw [hg];exact Nat.ne_of_lt (blk_lt (g:=gb225) (o:=.cells #[.int .i64 x226000_1,.slice Ao24 x226001_1.length co24] 26 (0,0)) qB136):gb225≠gb241));have n15_:=qAm ((by rw [hg];exact Nat.ne_of_gt (blk_lt (g:=gb225) (o:=.cells #[.int .i64 x226000_1,.slice Ao24 x226001_1.length co24] 26 (0,0)) qB136):gb241≠gb225));have n16_:=qAm ((by rw [hg];exact Nat.ne_of_lt (blk_lt (g:=gb226) (o:=.cells #[.int .i64 0,.slice none 0 0] 26 (0,0)) qB137):gb226≠gb241));have n17_:=qAm ((by rw [hg];exact Nat.ne_of_gt (blk_lt (g:=gb226) (o:=.cells #[.int .i64 0,.slice none 0 0] 26 (0,0)) qB137):gb241≠gb226));have n18_:=qAm ((by rw [hg];exact Nat.ne_of_lt (blk_lt (g:=gb240) (o:=.cells #[.int .i64 0,.slice none 0 0] 26 (0,0)) qB138):gb240≠gb241));have n19_:=qAm ((by rw [hg];exact Nat.ne_of_gt (blk_lt (g:=gb240) (o:=.cells #[.int .i64 0,.slice none 0 0] 26 (0,0)) qB138):gb241≠gb240));clear HO_225001;clear HO_226001;clear HO235;clear HO239;clear BK224;clear BK225;clear BK226;clear BK240;clear HB;have HO_225001:=n0_;have HO_226001:=n1_;have HO235:=n2_;have HO239:=n3_;have BK224:=n4_;have BK225:=n5_;have BK226:=n6_;have BK240:=n7_;have HB:=n8_;have BK241:=n9_;have GW241:=n10_;have GE241:=n11_;have NB224_241:=n12_;have NB241_224:=n13_;have NB225_241:=n14_;have NB241_225:=n15_;have NB226_241:=n16_;have NB241_226:=n17_;have NB240_241:=n18_;have NB241_240:=n19_;clear n0_ n1_ n2_ n3_ n4_ n5_ n6_ n7_ n8_ n9_ n10_ n11_ n12_ n13_ n14_ n15_ n16_ n17_ n18_ n19_;clear hb hbox hg;have hnb33:=NB240_224.1;have hnc33:=NB224_240.1;have hnb34:=NB240_225.1;have hnc34:=NB225_240.1;have hnb35:=NB240_226.1;have hnc35:=NB226_240.1;have hnb36:=NB240_241.1;have hnc36:=NB241_240.1;have hcz37_0:w32.cell? ⟨gb240,0,none⟩=some (.int .i64 0):=(blk_cell BK240.1 0).trans rfl;have hcz37_1:w32.cell? ⟨gb240,1,none⟩=some (.slice none 0 0):=(blk_cell BK240.1 1).trans rfl;have hfz37_0:=blk_frozen BK240.1 0;have hfz37_1:=blk_frozen BK240.1 1;obtain⟨Ao38,co38,eo38⟩:=Kd.R_slice HO235.1;subst eo38;have hnb39:=NB241_224.1;have hnc39:=NB224_241.1;have hnb40:=NB241_225.1;have hnc40:=NB225_241.1;have hnb41:=NB241_226.1;have hnc41:=NB226_241.1;have hcz42_0:w32.cell? ⟨gb241,0,none⟩=some (.int .i64 0):=(blk_cell BK241.1 0).trans rfl;have hcz42_1:w32.cell? ⟨gb241,1,none⟩=some (.slice none 0 0):=(blk_cell BK241.1 1).trans rfl;have hfz42_0:=blk_frozen BK241.1 0;have hfz42_1:=blk_frozen BK241.1 1;obtain⟨Ao43,co43,eo43⟩:=Kd.R_slice HO239.1;subst eo43;have hcz44_0:w32.cell? ⟨gb225,0,none⟩=some (.int .i64 x226000_1):=(blk_cell BK225.1 0).trans rfl;have hcz44_1:w32.cell? ⟨gb225,1,none⟩=some (.slice Ao24 x226001_1.length co24):=(blk_cell BK225.1 1).trans rfl;have hfz44_0:=blk_frozen BK225.1 0;have hfz44_1:=blk_frozen BK225.1 1;have hcz45_0:w32.cell? ⟨gb224,0,none⟩=some (.int .i64 x225000_1):=(blk_cell BK224.1 0).trans rfl;have hcz45_1:w32.cell? ⟨gb224,1,none⟩=some (.slice Ao29 x225001_1.length co29):=(blk_cell BK224.1 1).trans rfl;have hfz45_0:=blk_frozen BK224.1 0;have hfz45_1:=blk_frozen BK224.1 1))
    (first|go_roundg k1|((try simp only [add_plain] at *);go_roundg k1))
    case measure=>have:=HK1.1;omega
    case rel=>exact⟨(x226000_1),(x226001_1),(t236),(t237),(.slice Ao24 x226001_1.length co24),(.slice Ao43 t237.length co43),H',⟨by have:=HK1.1;omega⟩,⟨by (with_reducible repeat(first|apply Kd.V_alloc|apply Kd.V_drewN|apply Kd.V_drew));exact Kd.V_mono (Kd.V_far (p:=⟨gb225,1,none⟩) (Kd.V_far (p:=⟨gb225,0,none⟩) (Kd.V_far (p:=⟨gb224,1,none⟩) (Kd.V_far (p:=⟨gb224,0,none⟩) (Kd.V_far (p:=⟨gb241,1,none⟩) (Kd.V_far (p:=⟨gb241,0,none⟩) (Kd.V_far (p:=⟨gb240,1,none⟩) (Kd.V_far (p:=⟨gb240,0,none⟩) (Kd.V_mono (Kd.V_mono (Kd.V_mono (Kd.V_mono HO_226001.1 (fun k_ hk=>(⟨hk,hk.1.2⟩:_∧k_≠gb240))) (fun k_ hk=>(⟨hk,hk.1.2⟩:_∧k_≠gb241))) (fun k_ hk=>(⟨hk,hk.1.1.1.1.1.1.2.1⟩:_∧k_≠gb224))) (fun k_ hk=>(⟨hk,hk.1.1.1.1.1.1.1.2.2.1⟩:_∧k_≠gb225))) (fun _ hk=>hk.1.1.1.2) (.int .i64 t232)) (fun _ hk=>hk.1.1.1.2) (.slice Ao38 t233.length co38)) (fun _ hk=>hk.1.1.2) (.int .i64 t236)) (fun _ hk=>hk.1.1.2) (.slice Ao43 t237.length co43)) (fun _ hk=>hk.1.2) (.int .i64 x226000_1)) (fun _ hk=>hk.1.2) (.slice Ao24 x226001_1.length co24)) (fun _ hk=>hk.2) (.int .i64 t236)) (fun _ hk=>hk.2) (.slice Ao43 t237.length co43)) (fun _ hk=>⟨hk.1.1.1.1.1.1.1.1.1,⟨hk.1.1.1.1.1.1.1.1.2.1,⟨hk.1.1.1.1.1.1.1.1.2.2.1,hk.1.1.1.1.1.1.1.1.2.2.2⟩⟩⟩)⟩,⟨(by first|exact hand_V_orR qB1|exact(Kd.V_mono (Kd.R_V qB1) (fun k_ hk=>by first|exact⟨(.inr (hk.1)),hk.2⟩|exact(.inr (hk)))))⟩,⟨by (with_reducible repeat(first|refine blk_drewN ?_ _|refine blk_drew ?_|refine blk_alloc ?_ _));refine blk_far ?_ NB224_225.1 _;(with_reducible repeat(first|refine blk_drewN ?_ _|refine blk_drew ?_|refine blk_alloc ?_ _));refine blk_far ?_ NB224_225.1 _;(with_reducible repeat(first|refine blk_drewN ?_ _|refine blk_drew ?_|refine blk_alloc ?_ _));refine blk_put (cs:=#[.int .i64 x226000_1,.slice Ao29 x225001_1.length co29]) ?_ 1 _ rfl;(with_reducible repeat(first|refine blk_drewN ?_ _|refine blk_drew ?_|refine blk_alloc ?_ _));refine blk_put (cs:=#[.int .i64 x225000_1,.slice Ao29 x225001_1.length co29]) ?_ 0 _ rfl;(with_reducible repeat(first|refine blk_drewN ?_ _|refine blk_drew ?_|refine blk_alloc ?_ _));refine blk_far ?_ NB224_241.1 _;(with_reducible repeat(first|refine blk_drewN ?_ _|refine blk_drew ?_|refine blk_alloc ?_ _));refine blk_far ?_ NB224_241.1 _;(with_reducible repeat(first|refine blk_drewN ?_ _|refine blk_drew ?_|refine blk_alloc ?_ _));refine blk_far ?_ NB224_240.1 _;(with_reducible repeat(first|refine blk_drewN ?_ _|refine blk_drew ?_|refine blk_alloc ?_ _));refine blk_far ?_ NB224_240.1 _;(with_reducible repeat(first|refine blk_drewN ?_ _|refine blk_drew ?_|refine blk_alloc ?_ _));exact BK224.1⟩,⟨by (with_reducible repeat(first|refine blk_drewN ?_ _|refine blk_drew ?_|refine blk_alloc ?_ _));refine blk_put (cs:=#[.int .i64 t236,.slice Ao24 x226001_1.length co24]) ?_ 1 _ rfl;(with_reducible repeat(first|refine blk_drewN ?_ _|refine blk_drew ?_|refine blk_alloc ?_ _));refine blk_put (cs:=#[.int .i64 x226000_1,.slice Ao24 x226001_1.length co24]) ?_ 0 _ rfl;(with_reducible repeat(first|refine blk_drewN ?_ _|refine blk_drew ?_|refine blk_alloc ?_ _));refine blk_far ?_ NB225_224.1 _;(with_reducible repeat(first|refine blk_drewN ?_ _|refine blk_drew ?_|refine blk_alloc ?_ _));refine blk_far ?_ NB225_224.1 _;(with_reducible repeat(first|refine blk_drewN ?_ _|refine blk_drew ?_|refine blk_alloc ?_ _));refine blk_far ?_ NB225_241.1 _;(with_reducible repeat(first|refine blk_drewN ?_ _|refine blk_drew ?_|refine blk_alloc ?_ _));refine blk_far ?_ NB225_241.1 _;(with_reducible repeat(first|refine blk_drewN ?_ _|refine blk_drew ?_|refine blk_alloc ?_ _));refine blk_far ?_ NB225_240.1 _;(with_reducible repeat(first|refine blk_drewN ?_ _|refine blk_drew ?_|refine blk_alloc ?_ _));refine blk_far ?_ NB225_240.1 _;(with_reducible repeat(first|refine blk_drewN ?_ _|refine blk_drew ?_|refine blk_alloc ?_ _));exact BK225.1⟩,⟨by (with_reducible repeat(first|refine blk_drewN ?_ _|refine blk_drew ?_|refine blk_alloc ?_ _));refine blk_far ?_ NB226_225.1 _;(with_reducible repeat(first|refine blk_drewN ?_ _|refine blk_drew ?_|refine blk_alloc ?_ _));refine blk_far ?_ NB226_225.1 _;(with_reducible repeat(first|refine blk_drewN ?_ _|refine blk_drew ?_|refine blk_alloc ?_ _));refine blk_far ?_ NB226_224.1 _;(with_reducible repeat(first|refine blk_drewN ?_ _|refine blk_drew ?_|refine blk_alloc ?_ _));refine blk_far ?_ NB226_224.1 _;(with_reducible repeat(first|refine blk_drewN ?_ _|refine blk_drew ?_|refine blk_alloc ?_ _));refine blk_far ?_ NB226_241.1 _;(with_reducible repeat(first|refine blk_drewN ?_ _|refine blk_drew ?_|refine blk_alloc ?_ _));refine blk_far ?_ NB226_241.1 _;(with_reducible repeat(first|refine blk_drewN ?_ _|refine blk_drew ?_|refine blk_alloc ?_ _));refine blk_far ?_ NB226_240.1 _;(with_reducible repeat(first|refine blk_drewN ?_ _|refine blk_drew ?_|refine blk_alloc ?_ _));refine blk_far ?_ NB226_240.1 _;(with_reducible repeat(first|refine blk_drewN ?_ _|refine blk_drew ?_|refine blk_alloc ?_ _));exact BK226.1⟩,⟨by repeat(first|(with_reducible first|exact HB.1|apply below_alloc|apply pw_below_drewN|apply below_drew1|refine below_set ?_ GE224.1|refine below_set ?_ GE225.1|refine below_set ?_ GE226.1|refine below_set ?_ GE240.1|refine below_set ?_ GE241.1)|exact HB.1)⟩⟩

/-! ### spec_GcdOfCubics: function 14 -/
mutual
def spec_GcdOfCubics.j0:Nat→Int→Bool→Int→List Int→Int→List Int→Option (Int×List Int×Int)
 |0,_,_,_,_,_,_=>none
 |k+1,x6,x24,x243000,x243001,x244000,x244001=>if x24=true then (spec_GcdOfCubics.j1 k 5 x243000 x243001 x244000 x244001) else (spec_GcdOfCubics.j1 k x6 x243000 x243001 x244000 x244001)
def spec_GcdOfCubics.j1:Nat→Int→Int→List Int→Int→List Int→Option (Int×List Int×Int)
 |0,_,_,_,_,_=>none
 |k+1,x6,x243000,x243001,x244000,x244001=>if x6=0 then ((spec_l09Gcd.f k x243000 x243001 x244000 x244001).bind fun bt251=>((spec_l09Told.f bt251.1 bt251.2).bind fun bt255=>(some (bt255.1,bt255.2.1,bt255.2.2)))) else (some (0,([]:List Int),x6))
end
def spec_GcdOfCubics.f (k:Nat) (a0_0:Int) (l0_1:List Int) (a1_0:Int) (l1_1:List Int):Option (Int×List Int×Int):=(spec_l09Code.f k (([(⟨a0_0,l0_1⟩:S26),(⟨a1_0,l1_1⟩:S26)]:List (S26)))).bind fun t248=>(if t248=0 then ((spec_l09Norm.f a0_0 l0_1).bind fun t249=>(if t249=0 then ((spec_l09Norm.f a1_0 l1_1).bind fun t250=>(spec_GcdOfCubics.j0 k t248 (t250==0) a0_0 l0_1 a1_0 l1_1)) else (spec_GcdOfCubics.j0 k t248 false a0_0 l0_1 a1_0 l1_1))) else (spec_GcdOfCubics.j0 k t248 false a0_0 l0_1 a1_0 l1_1))
theorem spec_GcdOfCubics.mono_l:∀k,(∀y0 y1 y2 y3 y4 y5,LeO (spec_GcdOfCubics.j0 k y0 y1 y2 y3 y4 y5) (spec_GcdOfCubics.j0 (k+1) y0 y1 y2 y3 y4 y5))∧(∀y0 y1 y2 y3 y4,LeO (spec_GcdOfCubics.j1 k y0 y1 y2 y3 y4) (spec_GcdOfCubics.j1 (k+1) y0 y1 y2 y3 y4))
 |0=>⟨fun _ _ _ _ _ _ r h=>by simp [spec_GcdOfCubics.j0] at h,fun _ _ _ _ _ r h=>by simp [spec_GcdOfCubics.j1] at h⟩
 |k+1=>by
  obtain⟨ih0,ih1⟩:=spec_GcdOfCubics.mono_l k;refine⟨?_,?_⟩
  ·intro y0 y1 y2 y3 y4 y5;unfold spec_GcdOfCubics.j0;repeat' first
   |(with_reducible exact ih0 _ _ _ _ _ _)
   |(with_reducible exact ih1 _ _ _ _ _)
   |(with_reducible exact spec_l09Code.mono _ _)
   |(with_reducible exact spec_l09Gcd.mono _ _ _ _ _)
   |(with_reducible exact LeO.refl _)
   |(with_reducible exact LeO.none _)
   |(with_reducible refine LeO.ite ?_ ?_)
   |(with_reducible refine LeO.bind ?_ (fun _=>?_))
   |exact ih0 _ _ _ _ _ _
   |exact ih1 _ _ _ _ _
   |exact spec_l09Code.mono _ _
   |exact spec_l09Gcd.mono _ _ _ _ _
   |exact LeO.none _
   |refine LeO.ite ?_ ?_
   |refine LeO.bind ?_ (fun _=>?_)
  ·intro y0 y1 y2 y3 y4;unfold spec_GcdOfCubics.j1;repeat' first
   |(with_reducible exact ih0 _ _ _ _ _ _)
   |(with_reducible exact ih1 _ _ _ _ _)
   |(with_reducible exact spec_l09Code.mono _ _)
   |(with_reducible exact spec_l09Gcd.mono _ _ _ _ _)
   |(with_reducible exact LeO.refl _)
   |(with_reducible exact LeO.none _)
   |(with_reducible refine LeO.ite ?_ ?_)
   |(with_reducible refine LeO.bind ?_ (fun _=>?_))
   |exact ih0 _ _ _ _ _ _
   |exact ih1 _ _ _ _ _
   |exact spec_l09Code.mono _ _
   |exact spec_l09Gcd.mono _ _ _ _ _
   |exact LeO.none _
   |refine LeO.ite ?_ ?_
   |refine LeO.bind ?_ (fun _=>?_)
theorem spec_GcdOfCubics.mono:∀a0 a1 a2 a3 k,LeO (spec_GcdOfCubics.f k a0 a1 a2 a3) (spec_GcdOfCubics.f (k+1) a0 a1 a2 a3):=by
 intro a0 a1 a2 a3 k;obtain⟨ih0,ih1⟩:=spec_GcdOfCubics.mono_l k;unfold spec_GcdOfCubics.f;repeat' first
   |(with_reducible exact ih0 _ _ _ _ _ _)
   |(with_reducible exact ih1 _ _ _ _ _)
   |(with_reducible exact spec_l09Code.mono _ _)
   |(with_reducible exact spec_l09Gcd.mono _ _ _ _ _)
   |(with_reducible exact LeO.refl _)
   |(with_reducible exact LeO.none _)
   |(with_reducible refine LeO.ite ?_ ?_)
   |(with_reducible refine LeO.bind ?_ (fun _=>?_))
   |exact ih0 _ _ _ _ _ _
   |exact ih1 _ _ _ _ _
   |exact spec_l09Code.mono _ _
   |exact spec_l09Gcd.mono _ _ _ _ _
   |exact LeO.none _
   |refine LeO.ite ?_ ?_
   |refine LeO.bind ?_ (fun _=>?_)
set_option maxHeartbeats 8000000 in
set_option maxRecDepth 100000 in
theorem spec_GcdOfCubics.calls (k:Nat) (a0_0:Int) (P0_1_:Nat→Prop) (A0_1:Option Addr) (c0_1:Nat) (l0_1:List Int) (a1_0:Int) (P1_1_:Nat→Prop) (A1_1:Option Addr) (c1_1:Nat) (l1_1:List Int) (r1:Int) (r2:List Int) (r3:Int) (w:World) (hs0_1:Kd.V (Kd.int .i64) 2 w w.heap.size (fun k_=>P0_1_ k_) (.slice A0_1 l0_1.length c0_1) l0_1) (hs1_1:Kd.V (Kd.int .i64) 2 w w.heap.size (fun k_=>P1_1_ k_) (.slice A1_1 l1_1.length c1_1) l1_1) (h:spec_GcdOfCubics.f k a0_0 l0_1 a1_0 l1_1=some (r1,r2,r3)):
  Calls Try.prog 14 #[.agg #[.int .i64 a0_0,.slice A0_1 l0_1.length c0_1],.agg #[.int .i64 a1_0,.slice A1_1 l1_1.length c1_1]] w fun e w'=>∃v1_:Value,e=.returned (.tuple #[.agg #[.int .i64 r1,v1_],.int .i64 r3])∧Kd.R (Kd.int .i64) 2 w' w.heap.size (fun k_=>(w.heap.size≤k_)) v1_ r2∧Below w.heap.size w w':=by
 have hu26:=Try.underlying26;have HO0_1:=qAm (show Kd.V (Kd.int .i64) 2 w w.heap.size (fun k_=>((P0_1_ k_∨P1_1_ k_)∨w.heap.size≤k_)) (.slice A0_1 l0_1.length c0_1) l0_1 from Kd.V_mono hs0_1 (fun k_ hk=>.inl (.inl hk)));have HO1_1:=qAm (show Kd.V (Kd.int .i64) 2 w w.heap.size (fun k_=>((P0_1_ k_∨P1_1_ k_)∨w.heap.size≤k_)) (.slice A1_1 l1_1.length c1_1) l1_1 from Kd.V_mono hs1_1 (fun k_ hk=>.inl (.inr hk)));have HB:=qAm (Below.refl w.heap.size w);have H:((spec_l09Code.f k (([(⟨a0_0,l0_1⟩:S26),(⟨a1_0,l1_1⟩:S26)]:List (S26)))).bind fun t248=>(if t248=0 then ((spec_l09Norm.f a0_0 l0_1).bind fun t249=>(if t249=0 then ((spec_l09Norm.f a1_0 l1_1).bind fun t250=>(spec_GcdOfCubics.j0 k t248 (t250==0) a0_0 l0_1 a1_0 l1_1)) else (spec_GcdOfCubics.j0 k t248 false a0_0 l0_1 a1_0 l1_1))) else (spec_GcdOfCubics.j0 k t248 false a0_0 l0_1 a1_0 l1_1)))=some (r1,r2,r3):=h;clear h;obtain⟨y245,hy245⟩:∃y_:List (S26),y_=(([(⟨a0_0,l0_1⟩:S26),(⟨a1_0,l1_1⟩:S26)]:List (S26))):=⟨_,rfl⟩
 replace H:((spec_l09Code.f k y245).bind fun t248=>(if t248=0 then ((spec_l09Norm.f a0_0 l0_1).bind fun t249=>(if t249=0 then ((spec_l09Norm.f a1_0 l1_1).bind fun t250=>(spec_GcdOfCubics.j0 k t248 (t250==0) a0_0 l0_1 a1_0 l1_1)) else (spec_GcdOfCubics.j0 k t248 false a0_0 l0_1 a1_0 l1_1))) else (spec_GcdOfCubics.j0 k t248 false a0_0 l0_1 a1_0 l1_1)))=some (r1,r2,r3):=by first|(rw [hy245];with_reducible exact H)|(have H2_:=(Option.bind_some _ _).symm.trans H;rw [hy245];with_reducible exact H2_)|(have H2_:=(Option.bind_some _ _).symm.trans H;with_reducible exact H2_)|with_reducible exact H|(rw [hy245];exact H)|exact H
 have Ny245:=qAm hy245;clear hy245;replace H:=qOb H;obtain⟨t248,A30,H⟩:=H;replace H:(if t248=0 then ((spec_l09Norm.f a0_0 l0_1).bind fun t249=>(if t249=0 then ((spec_l09Norm.f a1_0 l1_1).bind fun t250=>(spec_GcdOfCubics.j0 k t248 (t250==0) a0_0 l0_1 a1_0 l1_1)) else (spec_GcdOfCubics.j0 k t248 false a0_0 l0_1 a1_0 l1_1))) else (spec_GcdOfCubics.j0 k t248 false a0_0 l0_1 a1_0 l1_1))=some (r1,r2,r3):=H;have A3:=qAm A30;clear A30;have HC4:=qAm H;clear H;go_enter Try.func14,Try.ntmps14;go_upto_region 2 with (first|((with_reducible refine gate_dst (N:=2) rfl ?_);refine box_event ?hg (N:=2) ?hd (cs:=#[.int .i64 a0_0,.slice A0_1 l0_1.length c0_1]) (t:=26) ?hr ?_;(case hd=>rfl);(case hg=>rfl);(case hr=>first|(go_simp;done)|(go_simp;rfl));intro gb242 hg w5 hbox hb;have n0_:=qAm (Kd.V_below (Kd.V_elderB qB192 gb242 (Nat.le_of_eq hg.symm)) hb);have n1_:=qAm (Kd.V_below (Kd.V_elderB qB194 gb242 (Nat.le_of_eq hg.symm)) hb);have n2_:=qAm (below_step qB115 hb);have n3_:=qAm (hbox);have n4_:=qAm ((by rw [hg];exact(below_size qB115):w.heap.size≤gb242));have n5_:=qAm ((by rw [hg];exact(below_size qB115):w.heap.size≤gb242));clear HO0_1;clear HO1_1;clear HB;have HO0_1:=n0_;have HO1_1:=n1_;have HB:=n2_;have BK242:=n3_;have GW242:=n4_;have GE242:=n5_;clear n0_ n1_ n2_ n3_ n4_ n5_;clear hb hbox hg)|((with_reducible refine gate_dst (N:=3) rfl ?_);refine box_event ?hg (N:=3) ?hd (cs:=#[.int .i64 a1_0,.slice A1_1 l1_1.length c1_1]) (t:=26) ?hr ?_;(case hd=>rfl);(case hg=>rfl);(case hr=>first|(go_simp;done)|(go_simp;rfl));intro gb243 hg w6 hbox hb;have n0_:=qAm (Kd.V_below (Kd.V_elderB qB192 gb243 (Nat.le_of_eq hg.symm)) hb);have n1_:=qAm (Kd.V_below (Kd.V_elderB qB194 gb243 (Nat.le_of_eq hg.symm)) hb);have n2_:=qAm (blk_below (g:=gb242) (o:=.cells #[.int .i64 a0_0,.slice A0_1 l0_1.length c0_1] 26 (0,0)) qB139 hb);have n3_:=qAm (below_step qB94 hb);have n4_:=qAm (hbox);have n5_:=qAm ((by rw [hg];exact(below_size qB94):w.heap.size≤gb243));have n6_:=qAm ((by rw [hg];exact(below_size qB94):w.heap.size≤gb243));have n7_:=qAm ((by rw [hg];exact Nat.ne_of_lt (blk_lt (g:=gb242) (o:=.cells #[.int .i64 a0_0,.slice A0_1 l0_1.length c0_1] 26 (0,0)) qB139):gb242≠gb243));have n8_:=qAm ((by rw [hg];exact Nat.ne_of_gt (blk_lt (g:=gb242) (o:=.cells #[.int .i64 a0_0,.slice A0_1 l0_1.length c0_1] 26 (0,0)) qB139):gb243≠gb242));clear HO0_1;clear HO1_1;clear BK242;clear HB;have HO0_1:=n0_;have HO1_1:=n1_;have BK242:=n2_;have HB:=n3_;have BK243:=n4_;have GW243:=n5_;have GE243:=n6_;have NB242_243:=n7_;have NB243_242:=n8_;clear n0_ n1_ n2_ n3_ n4_ n5_ n6_ n7_ n8_;clear hb hbox hg)|((with_reducible refine gate_dst (N:=4) rfl ?_);refine box_event ?hg (N:=4) ?hd (cs:=#[.int .i64 0,.slice none 0 0]) (t:=26) ?hr ?_;(case hd=>rfl);(case hg=>rfl);(case hr=>first|(go_simp;done)|(go_simp;rfl));intro gb244 hg w7 hbox hb;have n0_:=qAm (Kd.V_below (Kd.V_elderB qB192 gb244 (Nat.le_of_eq hg.symm)) hb);have n1_:=qAm (Kd.V_below (Kd.V_elderB qB194 gb244 (Nat.le_of_eq hg.symm)) hb);have n2_:=qAm (blk_below (g:=gb242) (o:=.cells #[.int .i64 a0_0,.slice A0_1 l0_1.length c0_1] 26 (0,0)) qB139 hb);have n3_:=qAm (blk_below (g:=gb243) (o:=.cells #[.int .i64 a1_0,.slice A1_1 l1_1.length c1_1] 26 (0,0)) qB140 hb);have n4_:=qAm (below_step qB73 hb);have n5_:=qAm (hbox);have n6_:=qAm ((by rw [hg];exact(below_size qB73):w.heap.size≤gb244));have n7_:=qAm ((by rw [hg];exact(below_size qB73):w.heap.size≤gb244));have n8_:=qAm ((by rw [hg];exact Nat.ne_of_lt (blk_lt (g:=gb242) (o:=.cells #[.int .i64 a0_0,.slice A0_1 l0_1.length c0_1] 26 (0,0)) qB139):gb242≠gb244));have n9_:=qAm ((by rw [hg];exact Nat.ne_of_gt (blk_lt (g:=gb242) (o:=.cells #[.int .i64 a0_0,.slice A0_1 l0_1.length c0_1] 26 (0,0)) qB139):gb244≠gb242));have n10_:=qAm ((by rw [hg];exact Nat.ne_of_lt (blk_lt (g:=gb243) (o:=.cells #[.int .i64 a1_0,.slice A1_1 l1_1.length c1_1] 26 (0,0)) qB140):gb243≠gb244));have n11_:=qAm ((by rw [hg];exact Nat.ne_of_gt (blk_lt (g:=gb243) (o:=.cells #[.int .i64 a1_0,.slice A1_1 l1_1.length c1_1] 26 (0,0)) qB140):gb244≠gb243));clear HO0_1;clear HO1_1;clear BK242;clear BK243;clear HB;have HO0_1:=n0_;have HO1_1:=n1_;have BK242:=n2_;have BK243:=n3_;have HB:=n4_;have BK244:=n5_;have GW244:=n6_;have GE244:=n7_;have NB242_244:=n8_;have NB244_242:=n9_;have NB243_244:=n10_;have NB244_243:=n11_;clear n0_ n1_ n2_ n3_ n4_ n5_ n6_ n7_ n8_ n9_ n10_ n11_;clear hb hbox hg;have hnb8:=NB242_243.1;have hnc8:=NB243_242.1;have hnb9:=NB242_244.1;have hnc9:=NB244_242.1;have hcz10_0:w7.cell? ⟨gb242,0,none⟩=some (.int .i64 a0_0):=(blk_cell BK242.1 0).trans rfl;have hcz10_1:w7.cell? ⟨gb242,1,none⟩=some (.slice A0_1 l0_1.length c0_1):=(blk_cell BK242.1 1).trans rfl;have hfz10_0:=blk_frozen BK242.1 0;have hfz10_1:=blk_frozen BK242.1 1;have hnb11:=NB243_244.1;have hnc11:=NB244_243.1;have hcz12_0:w7.cell? ⟨gb243,0,none⟩=some (.int .i64 a1_0):=(blk_cell BK243.1 0).trans rfl;have hcz12_1:w7.cell? ⟨gb243,1,none⟩=some (.slice A1_1 l1_1.length c1_1):=(blk_cell BK243.1 1).trans rfl;have hfz12_0:=blk_frozen BK243.1 0;have hfz12_1:=blk_frozen BK243.1 1)|((with_reducible refine gate_dst (N:=11) rfl ?_);refine Kd.N_lit k26 _ 26 ?hg (N':=11) ?hd (xs:=([(⟨a0_0,l0_1⟩:S26),(⟨a1_0,l1_1⟩:S26)]:List (S26))) (inner:=[.int .i64 a0_0,.slice A0_1 l0_1.length c0_1,.int .i64 a1_0,.slice A1_1 l1_1.length c1_1]) (ok:=(fun k_=>((P0_1_ k_∨P1_1_ k_)∨w.heap.size≤k_)∧k_≠gb242∧k_≠gb243∧k_≠gb244)) (okp:=(fun k_=>((P0_1_ k_∨P1_1_ k_)∨w.heap.size≤k_)∧k_≠gb242∧k_≠gb243∧k_≠gb244)) ?hr ?hp (fun _ hk=>hk) ((show ∀k_,w7.heap.size≤k_→(fun k_=>((P0_1_ k_∨P1_1_ k_)∨w.heap.size≤k_)∧k_≠gb242∧k_≠gb243∧k_≠gb244) k_ from fun k_ hk=>⟨(.inr (Nat.le_trans (below_size qB54) hk)),Kd.freshB (g:=gb242) (o:=.cells #[.int .i64 a0_0,.slice A0_1 l0_1.length c0_1] 26 (0,0)) qB139 k_ hk,Kd.freshB (g:=gb243) (o:=.cells #[.int .i64 a1_0,.slice A1_1 l1_1.length c1_1] 26 (0,0)) qB140 k_ hk,Kd.freshB (g:=gb244) (o:=.cells #[.int .i64 0,.slice none 0 0] 26 (0,0)) qB141 k_ hk⟩) _ (Nat.le_refl _)) (Below.refl _ _) (Nat.le_refl _) (by simp) ?_;(case hd=>rfl);(case hg=>rfl);(case hr=>first|(go_simp;done)|(go_simp;rfl));(case hp=>exact(Reps.c2 (show Kd.FK k26 _ _ (⟨a0_0,l0_1⟩:S26) [.int .i64 a0_0,.slice A0_1 l0_1.length c0_1] from (k26_mkF _ _ (⟨a0_0,l0_1⟩:S26) (Kd.V_reads' (Kd.V_mono (ok':=(fun k_=>((P0_1_ k_∨P1_1_ k_)∨w.heap.size≤k_)∧k_≠gb242∧k_≠gb243∧k_≠gb244)) (HO0_1.1) (fun k_ hk=>⟨hk.1.1.1,⟨hk.1.1.2,⟨hk.1.2,hk.2⟩⟩⟩))).2.1 (Kd.V_F (Kd.V_mono (ok':=(fun k_=>((P0_1_ k_∨P1_1_ k_)∨w.heap.size≤k_)∧k_≠gb242∧k_≠gb243∧k_≠gb244)) (HO0_1.1) (fun k_ hk=>⟨hk.1.1.1,⟨hk.1.1.2,⟨hk.1.2,hk.2⟩⟩⟩))))) (Reps.c2 (show Kd.FK k26 _ _ (⟨a1_0,l1_1⟩:S26) [.int .i64 a1_0,.slice A1_1 l1_1.length c1_1] from (k26_mkF _ _ (⟨a1_0,l1_1⟩:S26) (Kd.V_reads' (Kd.V_mono (ok':=(fun k_=>((P0_1_ k_∨P1_1_ k_)∨w.heap.size≤k_)∧k_≠gb242∧k_≠gb243∧k_≠gb244)) (HO1_1.1) (fun k_ hk=>⟨hk.1.1.1,⟨hk.1.1.2,⟨hk.1.2,hk.2⟩⟩⟩))).2.1 (Kd.V_F (Kd.V_mono (ok':=(fun k_=>((P0_1_ k_∨P1_1_ k_)∨w.heap.size≤k_)∧k_≠gb242∧k_≠gb243∧k_≠gb244)) (HO1_1.1) (fun k_ hk=>⟨hk.1.1.1,⟨hk.1.1.2,⟨hk.1.2,hk.2⟩⟩⟩))))) (Reps.none _ _))));intro v246 w13 ho14 hb hg_ hnew_;clear hg_ hnew_;(first|rw [← Ny245.1] at ho14|(simp only [Int.reduceToNat] at ho14;rw [← Ny245.1] at ho14));have n0_:=qAm (Kd.V_elder' qB192 (Kd.N_base ho14) hb);have n1_:=qAm (Kd.V_elder' qB194 (Kd.N_base ho14) hb);have n2_:=qAm (Kd.N_lower ho14 (below_size qB54));have n3_:=qAm (blk_below (g:=gb242) (o:=.cells #[.int .i64 a0_0,.slice A0_1 l0_1.length c0_1] 26 (0,0)) qB139 hb);have n4_:=qAm (blk_below (g:=gb243) (o:=.cells #[.int .i64 a1_0,.slice A1_1 l1_1.length c1_1] 26 (0,0)) qB140 hb);have n5_:=qAm (blk_below (g:=gb244) (o:=.cells #[.int .i64 0,.slice none 0 0] 26 (0,0)) qB141 hb);have n6_:=qAm (below_step qB54 hb);clear HO0_1;clear HO1_1;clear BK242;clear BK243;clear BK244;clear HB;have HO0_1:=n0_;have HO1_1:=n1_;have HO247:=n2_;have BK242:=n3_;have BK243:=n4_;have BK244:=n5_;have HB:=n6_;clear n0_ n1_ n2_ n3_ n4_ n5_ n6_;clear hb ho14;obtain⟨Ao15,co15,eo15⟩:=Kd.N_slice HO247.1;subst eo15)|((with_reducible refine gate_callee (f:=24) rfl ?_);refine goesL_ (some 12) rfl rfl Try.func24 (by kernel_rfl) rfl #[.slice Ao15 y245.length co15] rfl qB112 ?_;(with_reducible refine(spec_l09Code.calls k _ _ y245 t248 _ ?side1 ?side2 A3.1).mono ?_);(case side1=>repeat(first|exact(Kd.N_reads' HO247.1).2.2|(with_reducible refine Kd.C_alloc ?_ _)|(with_reducible refine Kd.C_drewN ?_ _)|(with_reducible refine Kd.C_drew ?_)));(case side2=>exact(Kd.N_reads' HO247.1).2.1);rintro e w16 ⟨rfl,hb⟩;refine⟨_,rfl,?_⟩;have n0_:=qAm (Kd.V_below qB192 hb);have n1_:=qAm (Kd.V_below qB194 hb);have n2_:=qAm (Kd.N_below qB197 hb);have n3_:=qAm (blk_below (g:=gb242) (o:=.cells #[.int .i64 a0_0,.slice A0_1 l0_1.length c0_1] 26 (0,0)) qB139 hb);have n4_:=qAm (blk_below (g:=gb243) (o:=.cells #[.int .i64 a1_0,.slice A1_1 l1_1.length c1_1] 26 (0,0)) qB140 hb);have n5_:=qAm (blk_below (g:=gb244) (o:=.cells #[.int .i64 0,.slice none 0 0] 26 (0,0)) qB141 hb);have n6_:=qAm (below_step qB54 hb);clear HO0_1;clear HO1_1;clear HO247;clear BK242;clear BK243;clear BK244;clear HB;have HO0_1:=n0_;have HO1_1:=n1_;have HO247:=n2_;have BK242:=n3_;have BK243:=n4_;have BK244:=n5_;have HB:=n6_;clear n0_ n1_ n2_ n3_ n4_ n5_ n6_;(try clear hb);(try clear hb2);(try clear hk);(try clear hi)))
 (try simp only [Act.put,qSa,qSb,qSc])
 go_cut [24] (fun v24 wc=>∃(kq:Nat) (x24_3:Bool),v24=.bool x24_3∧Aside0 (spec_GcdOfCubics.j0 kq t248 x24_3 a0_0 l0_1 a1_0 l1_1=some (r1,r2,r3))∧Aside0 (kq≤k)∧Aside0 (Kd.V (Kd.int .i64) 2 wc w.heap.size (fun k_=>((P0_1_ k_∨P1_1_ k_)∨w.heap.size≤k_)∧k_≠gb242∧k_≠gb243∧k_≠gb244) (.slice A0_1 l0_1.length c0_1) l0_1)∧Aside0 (Kd.V (Kd.int .i64) 2 wc w.heap.size (fun k_=>((P0_1_ k_∨P1_1_ k_)∨w.heap.size≤k_)∧k_≠gb242∧k_≠gb243∧k_≠gb244) (.slice A1_1 l1_1.length c1_1) l1_1)∧Aside0 (wc.heap[gb242]? =some (.cells #[.int .i64 a0_0,(.slice A0_1 l0_1.length c0_1)] 26 (0,0)))∧Aside0 (wc.heap[gb243]? =some (.cells #[.int .i64 a1_0,(.slice A1_1 l1_1.length c1_1)] 26 (0,0)))∧Aside0 (wc.heap[gb244]? =some (.cells #[.int .i64 0,(.slice none 0 0)] 26 (0,0)))∧Aside0 (Below w.heap.size w wc))
 case first=>
  have H:=HC4.1;clear HC4
  by_cases c17:t248=0
  ·rw [if_pos c17] at H;have c17b0:(t248==0)=true:=beq_iff_eq.mpr c17;have c17b1:(t248 !=0)=false:=bne_eq_false_iff_eq.mpr c17;clear c17
   (first|rw [c17b0]|(simp only [i64_w,i32_w];rw [c17b0])|skip)
   replace H:=qOb H;obtain⟨t249,A180,H⟩:=H;replace H:(if t249=0 then ((spec_l09Norm.f a1_0 l1_1).bind fun t250=>(spec_GcdOfCubics.j0 k t248 (t250==0) a0_0 l0_1 a1_0 l1_1)) else (spec_GcdOfCubics.j0 k t248 false a0_0 l0_1 a1_0 l1_1))=some (r1,r2,r3):=H;have A18:=qAm A180;clear A180
   by_cases c19:t249=0
   ·rw [if_pos c19] at H;have c19b0:(t249==0)=true:=beq_iff_eq.mpr c19;have c19b1:(t249 !=0)=false:=bne_eq_false_iff_eq.mpr c19;clear c19;replace H:=qOb H;obtain⟨t250,A200,H⟩:=H;replace H:(spec_GcdOfCubics.j0 k t248 (t250==0) a0_0 l0_1 a1_0 l1_1)=some (r1,r2,r3):=H;have A20:=qAm A200;clear A200;have H':=qAm H;clear H;have hnb21:=NB242_243.1;have hnc21:=NB243_242.1;have hnb22:=NB242_244.1;have hnc22:=NB244_242.1;have hcz23_0:w16.cell? ⟨gb242,0,none⟩=some (.int .i64 a0_0):=(blk_cell BK242.1 0).trans rfl;have hcz23_1:w16.cell? ⟨gb242,1,none⟩=some (.slice A0_1 l0_1.length c0_1):=(blk_cell BK242.1 1).trans rfl;have hfz23_0:=blk_frozen BK242.1 0;have hfz23_1:=blk_frozen BK242.1 1;go_wp2_with (first|(go_at_call 25;(with_reducible refine(spec_l09Norm.calls a0_0 _ _ l0_1 t249 _ ?side1 ?side2 A18.1).mono ?_);(case side1=>repeat(first|exact(Kd.V_reads' HO0_1.1).2.2|(with_reducible refine Kd.C_alloc ?_ _)|(with_reducible refine Kd.C_drewN ?_ _)|(with_reducible refine Kd.C_drew ?_)));(case side2=>exact(Kd.V_reads' HO0_1.1).2.1);rintro e w24 ⟨rfl,hb⟩;have n0_:=qAm (Kd.V_below qB192 hb);have n1_:=qAm (Kd.V_below qB194 hb);have n2_:=qAm (Kd.N_below qB197 hb);have n3_:=qAm (blk_below (g:=gb242) (o:=.cells #[.int .i64 a0_0,.slice A0_1 l0_1.length c0_1] 26 (0,0)) qB139 hb);have n4_:=qAm (blk_below (g:=gb243) (o:=.cells #[.int .i64 a1_0,.slice A1_1 l1_1.length c1_1] 26 (0,0)) qB140 hb);have n5_:=qAm (blk_below (g:=gb244) (o:=.cells #[.int .i64 0,.slice none 0 0] 26 (0,0)) qB141 hb);have n6_:=qAm (below_step qB54 hb);clear HO0_1;clear HO1_1;clear HO247;clear BK242;clear BK243;clear BK244;clear HB;have HO0_1:=n0_;have HO1_1:=n1_;have HO247:=n2_;have BK242:=n3_;have BK243:=n4_;have BK244:=n5_;have HB:=n6_;clear n0_ n1_ n2_ n3_ n4_ n5_ n6_;(try clear hb);(try clear hb2);(try clear hk);(try clear hi);have hnb25:=NB243_244.1;have hnc25:=NB244_243.1;have hcz26_0:w24.cell? ⟨gb243,0,none⟩=some (.int .i64 a1_0):=(blk_cell BK243.1 0).trans rfl;have hcz26_1:w24.cell? ⟨gb243,1,none⟩=some (.slice A1_1 l1_1.length c1_1):=(blk_cell BK243.1 1).trans rfl;have hfz26_0:=blk_frozen BK243.1 0;have hfz26_1:=blk_frozen BK243.1 1)|(go_at_call 25;(with_reducible refine(spec_l09Norm.calls a1_0 _ _ l1_1 t250 _ ?side1 ?side2 A20.1).mono ?_);(case side1=>repeat(first|exact(Kd.V_reads' HO1_1.1).2.2|(with_reducible refine Kd.C_alloc ?_ _)|(with_reducible refine Kd.C_drewN ?_ _)|(with_reducible refine Kd.C_drew ?_)));(case side2=>exact(Kd.V_reads' HO1_1.1).2.1);rintro e w27 ⟨rfl,hb⟩;have n0_:=qAm (Kd.V_below qB192 hb);have n1_:=qAm (Kd.V_below qB194 hb);have n2_:=qAm (Kd.N_below qB197 hb);have n3_:=qAm (blk_below (g:=gb242) (o:=.cells #[.int .i64 a0_0,.slice A0_1 l0_1.length c0_1] 26 (0,0)) qB139 hb);have n4_:=qAm (blk_below (g:=gb243) (o:=.cells #[.int .i64 a1_0,.slice A1_1 l1_1.length c1_1] 26 (0,0)) qB140 hb);have n5_:=qAm (blk_below (g:=gb244) (o:=.cells #[.int .i64 0,.slice none 0 0] 26 (0,0)) qB141 hb);have n6_:=qAm (below_step qB54 hb);clear HO0_1;clear HO1_1;clear HO247;clear BK242;clear BK243;clear BK244;clear HB;have HO0_1:=n0_;have HO1_1:=n1_;have HO247:=n2_;have BK242:=n3_;have BK243:=n4_;have BK244:=n5_;have HB:=n6_;clear n0_ n1_ n2_ n3_ n4_ n5_ n6_;(try clear hb);(try clear hb2);(try clear hk);(try clear hi)));go_meet
    case rel=>exact⟨_,((t250==0)),qB223,H',⟨by first|omega|exact Nat.le_refl _⟩,⟨by (with_reducible repeat(first|apply Kd.V_alloc|apply Kd.V_drewN|apply Kd.V_drew));exact Kd.V_mono HO0_1.1 (fun _ hk=>⟨hk.1.1.1.1,⟨hk.1.1.1.2,⟨hk.1.1.2,hk.1.2⟩⟩⟩)⟩,⟨by (with_reducible repeat(first|apply Kd.V_alloc|apply Kd.V_drewN|apply Kd.V_drew));exact Kd.V_mono HO1_1.1 (fun _ hk=>⟨hk.1.1.1.1,⟨hk.1.1.1.2,⟨hk.1.1.2,hk.1.2⟩⟩⟩)⟩,⟨by (with_reducible repeat(first|refine blk_drewN ?_ _|refine blk_drew ?_|refine blk_alloc ?_ _));exact BK242.1⟩,⟨by (with_reducible repeat(first|refine blk_drewN ?_ _|refine blk_drew ?_|refine blk_alloc ?_ _));exact BK243.1⟩,⟨by (with_reducible repeat(first|refine blk_drewN ?_ _|refine blk_drew ?_|refine blk_alloc ?_ _));exact BK244.1⟩,⟨by repeat(first|(with_reducible first|exact HB.1|apply below_alloc|apply pw_below_drewN|apply below_drew1|refine below_set ?_ GE242.1|refine below_set ?_ GE243.1|refine below_set ?_ GE244.1)|exact HB.1)⟩⟩
   ·rw [if_neg c19] at H;have c19b0:(t249==0)=false:=beq_eq_false_iff_ne.mpr c19;have c19b1:(t249 !=0)=true:=bne_iff_ne.mpr c19;have H':=qAm H;clear H;have hnb28:=NB242_243.1;have hnc28:=NB243_242.1;have hnb29:=NB242_244.1;have hnc29:=NB244_242.1;have hcz30_0:w16.cell? ⟨gb242,0,none⟩=some (.int .i64 a0_0):=(blk_cell BK242.1 0).trans rfl;have hcz30_1:w16.cell? ⟨gb242,1,none⟩=some (.slice A0_1 l0_1.length c0_1):=(blk_cell BK242.1 1).trans rfl;have hfz30_0:=blk_frozen BK242.1 0;have hfz30_1:=blk_frozen BK242.1 1;go_wp2_with (first|(go_at_call 25;(with_reducible refine(spec_l09Norm.calls a0_0 _ _ l0_1 t249 _ ?side1 ?side2 A18.1).mono ?_);(case side1=>repeat(first|exact(Kd.V_reads' HO0_1.1).2.2|(with_reducible refine Kd.C_alloc ?_ _)|(with_reducible refine Kd.C_drewN ?_ _)|(with_reducible refine Kd.C_drew ?_)));(case side2=>exact(Kd.V_reads' HO0_1.1).2.1);rintro e w31 ⟨rfl,hb⟩;have n0_:=qAm (Kd.V_below qB192 hb);have n1_:=qAm (Kd.V_below qB194 hb);have n2_:=qAm (Kd.N_below qB197 hb);have n3_:=qAm (blk_below (g:=gb242) (o:=.cells #[.int .i64 a0_0,.slice A0_1 l0_1.length c0_1] 26 (0,0)) qB139 hb);have n4_:=qAm (blk_below (g:=gb243) (o:=.cells #[.int .i64 a1_0,.slice A1_1 l1_1.length c1_1] 26 (0,0)) qB140 hb);have n5_:=qAm (blk_below (g:=gb244) (o:=.cells #[.int .i64 0,.slice none 0 0] 26 (0,0)) qB141 hb);have n6_:=qAm (below_step qB54 hb);clear HO0_1;clear HO1_1;clear HO247;clear BK242;clear BK243;clear BK244;clear HB;have HO0_1:=n0_;have HO1_1:=n1_;have HO247:=n2_;have BK242:=n3_;have BK243:=n4_;have BK244:=n5_;have HB:=n6_;clear n0_ n1_ n2_ n3_ n4_ n5_ n6_;(try clear hb);(try clear hb2);(try clear hk);(try clear hi)));go_meet
    case rel=>exact⟨_,(false),qB223,H',⟨by first|omega|exact Nat.le_refl _⟩,⟨by (with_reducible repeat(first|apply Kd.V_alloc|apply Kd.V_drewN|apply Kd.V_drew));exact Kd.V_mono HO0_1.1 (fun _ hk=>⟨hk.1.1.1.1,⟨hk.1.1.1.2,⟨hk.1.1.2,hk.1.2⟩⟩⟩)⟩,⟨by (with_reducible repeat(first|apply Kd.V_alloc|apply Kd.V_drewN|apply Kd.V_drew));exact Kd.V_mono HO1_1.1 (fun _ hk=>⟨hk.1.1.1.1,⟨hk.1.1.1.2,⟨hk.1.1.2,hk.1.2⟩⟩⟩)⟩,⟨by (with_reducible repeat(first|refine blk_drewN ?_ _|refine blk_drew ?_|refine blk_alloc ?_ _));exact BK242.1⟩,⟨by (with_reducible repeat(first|refine blk_drewN ?_ _|refine blk_drew ?_|refine blk_alloc ?_ _));exact BK243.1⟩,⟨by (with_reducible repeat(first|refine blk_drewN ?_ _|refine blk_drew ?_|refine blk_alloc ?_ _));exact BK244.1⟩,⟨by repeat(first|(with_reducible first|exact HB.1|apply below_alloc|apply pw_below_drewN|apply below_drew1|refine below_set ?_ GE242.1|refine below_set ?_ GE243.1|refine below_set ?_ GE244.1)|exact HB.1)⟩⟩
  ·rw [if_neg c17] at H;have c17b0:(t248==0)=false:=beq_eq_false_iff_ne.mpr c17;have c17b1:(t248 !=0)=true:=bne_iff_ne.mpr c17
   (first|rw [c17b0]|(simp only [i64_w,i32_w];rw [c17b0])|skip)
   have H':=qAm H;clear H;go_wp2;go_meet
   case rel=>exact⟨_,(false),qB223,H',⟨by first|omega|exact Nat.le_refl _⟩,⟨by (with_reducible repeat(first|apply Kd.V_alloc|apply Kd.V_drewN|apply Kd.V_drew));exact Kd.V_mono HO0_1.1 (fun _ hk=>⟨hk.1.1.1.1,⟨hk.1.1.1.2,⟨hk.1.1.2,hk.1.2⟩⟩⟩)⟩,⟨by (with_reducible repeat(first|apply Kd.V_alloc|apply Kd.V_drewN|apply Kd.V_drew));exact Kd.V_mono HO1_1.1 (fun _ hk=>⟨hk.1.1.1.1,⟨hk.1.1.1.2,⟨hk.1.1.2,hk.1.2⟩⟩⟩)⟩,⟨by (with_reducible repeat(first|refine blk_drewN ?_ _|refine blk_drew ?_|refine blk_alloc ?_ _));exact BK242.1⟩,⟨by (with_reducible repeat(first|refine blk_drewN ?_ _|refine blk_drew ?_|refine blk_alloc ?_ _));exact BK243.1⟩,⟨by (with_reducible repeat(first|refine blk_drewN ?_ _|refine blk_drew ?_|refine blk_alloc ?_ _));exact BK244.1⟩,⟨by repeat(first|(with_reducible first|exact HB.1|apply below_alloc|apply pw_below_drewN|apply below_drew1|refine below_set ?_ GE242.1|refine below_set ?_ GE243.1|refine below_set ?_ GE244.1)|exact HB.1)⟩⟩
 case rest=>
  clear HC4;try clear c1
  try clear c2
  try clear p2
  try clear c8
  try clear c9
  try clear c11
  try clear c14
  try clear c17
  try clear c17b0
  try clear c17b1
  try clear c19
  try clear c19b0
  try clear c19b1
  try clear c21
  try clear c22
  try clear c24
  try clear c25
  try clear c28
  try clear c29
  try clear hcz10_0
  try clear hcz10_1
  try clear hcz12_0
  try clear hcz12_1
  try clear hcz23_0
  try clear hcz23_1
  try clear hcz26_0
  try clear hcz26_1
  try clear hcz30_0
  try clear hcz30_1
  try clear hfz10_0
  try clear hfz10_1
  try clear hfz12_0
  try clear hfz12_1
  try clear hfz23_0
  try clear hfz23_1
  try clear hfz26_0
  try clear hfz26_1
  try clear hfz30_0
  try clear hfz30_1
  obtain⟨kq,x24_3,rfl,HA,HJ3,HO_243001,HO_244001,BK242,BK243,BK244,HB⟩:=hcut;cases kq with
  |zero=>exact absurd HA.1 (by simp [spec_GcdOfCubics.j0])
  |succ kj3=>
   have H:=HA.1;clear HA;simp only [spec_GcdOfCubics.j0] at H;have HC32:=qAm H;clear H;go_upto_if 24 with (fail)
   go_cut [6] (fun v6 wc=>∃(kq:Nat) (x6_31:Int),v6=.int .i64 x6_31∧Aside0 (spec_GcdOfCubics.j1 kq x6_31 a0_0 l0_1 a1_0 l1_1=some (r1,r2,r3))∧Aside0 (kq≤kj3)∧Aside0 (Kd.V (Kd.int .i64) 2 wc w.heap.size (fun k_=>((P0_1_ k_∨P1_1_ k_)∨w.heap.size≤k_)∧k_≠gb242∧k_≠gb243∧k_≠gb244) (.slice A0_1 l0_1.length c0_1) l0_1)∧Aside0 (Kd.V (Kd.int .i64) 2 wc w.heap.size (fun k_=>((P0_1_ k_∨P1_1_ k_)∨w.heap.size≤k_)∧k_≠gb242∧k_≠gb243∧k_≠gb244) (.slice A1_1 l1_1.length c1_1) l1_1)∧Aside0 (wc.heap[gb242]? =some (.cells #[.int .i64 a0_0,(.slice A0_1 l0_1.length c0_1)] 26 (0,0)))∧Aside0 (wc.heap[gb243]? =some (.cells #[.int .i64 a1_0,(.slice A1_1 l1_1.length c1_1)] 26 (0,0)))∧Aside0 (wc.heap[gb244]? =some (.cells #[.int .i64 0,(.slice none 0 0)] 26 (0,0)))∧Aside0 (Below w.heap.size w wc))
   case first=>
    have H:=HC32.1;clear HC32
    by_cases c33:x24_3=true
    ·subst c33;have H1:(spec_GcdOfCubics.j1 kj3 5 a0_0 l0_1 a1_0 l1_1)=some (r1,r2,r3):=by rw [if_pos rfl] at H;exact H
     clear H;have H:=H1;clear H1;have H':=qAm H;clear H;go_wp2;go_meet
     case rel=>exact⟨_,(5),qB223,H',⟨by have:=HJ3.1;first|omega|exact Nat.le_refl _⟩,⟨by (with_reducible repeat(first|apply Kd.V_alloc|apply Kd.V_drewN|apply Kd.V_drew));exact HO_243001.1⟩,⟨by (with_reducible repeat(first|apply Kd.V_alloc|apply Kd.V_drewN|apply Kd.V_drew));exact HO_244001.1⟩,⟨by (with_reducible repeat(first|refine blk_drewN ?_ _|refine blk_drew ?_|refine blk_alloc ?_ _));exact BK242.1⟩,⟨by (with_reducible repeat(first|refine blk_drewN ?_ _|refine blk_drew ?_|refine blk_alloc ?_ _));exact BK243.1⟩,⟨by (with_reducible repeat(first|refine blk_drewN ?_ _|refine blk_drew ?_|refine blk_alloc ?_ _));exact BK244.1⟩,⟨by repeat(first|(with_reducible first|exact HB.1|apply below_alloc|apply pw_below_drewN|apply below_drew1|refine below_set ?_ GE242.1|refine below_set ?_ GE243.1|refine below_set ?_ GE244.1)|exact HB.1)⟩⟩
    ·replace c33:=Bool.eq_false_iff.mpr c33;subst c33;have H1:(spec_GcdOfCubics.j1 kj3 t248 a0_0 l0_1 a1_0 l1_1)=some (r1,r2,r3):=by rw [if_neg (show ¬(false=true) by decide)] at H;exact H
     clear H;have H:=H1;clear H1;have H':=qAm H;clear H;go_wp2;go_meet
     case rel=>exact⟨_,(t248),qB223,H',⟨by have:=HJ3.1;first|omega|exact Nat.le_refl _⟩,⟨by (with_reducible repeat(first|apply Kd.V_alloc|apply Kd.V_drewN|apply Kd.V_drew));exact HO_243001.1⟩,⟨by (with_reducible repeat(first|apply Kd.V_alloc|apply Kd.V_drewN|apply Kd.V_drew));exact HO_244001.1⟩,⟨by (with_reducible repeat(first|refine blk_drewN ?_ _|refine blk_drew ?_|refine blk_alloc ?_ _));exact BK242.1⟩,⟨by (with_reducible repeat(first|refine blk_drewN ?_ _|refine blk_drew ?_|refine blk_alloc ?_ _));exact BK243.1⟩,⟨by (with_reducible repeat(first|refine blk_drewN ?_ _|refine blk_drew ?_|refine blk_alloc ?_ _));exact BK244.1⟩,⟨by repeat(first|(with_reducible first|exact HB.1|apply below_alloc|apply pw_below_drewN|apply below_drew1|refine below_set ?_ GE242.1|refine below_set ?_ GE243.1|refine below_set ?_ GE244.1)|exact HB.1)⟩⟩
   case rest=>
    clear HC32;try clear c1
    try clear c2
    try clear p2
    try clear c3
    try clear c8
    try clear c9
    try clear c11
    try clear c14
    try clear c17
    try clear c17b0
    try clear c17b1
    try clear c19
    try clear c19b0
    try clear c19b1
    try clear c21
    try clear c22
    try clear c24
    try clear c25
    try clear c28
    try clear c29
    try clear c33
    try clear hcz10_0
    try clear hcz10_1
    try clear hcz12_0
    try clear hcz12_1
    try clear hcz23_0
    try clear hcz23_1
    try clear hcz26_0
    try clear hcz26_1
    try clear hcz30_0
    try clear hcz30_1
    try clear hfz10_0
    try clear hfz10_1
    try clear hfz12_0
    try clear hfz12_1
    try clear hfz23_0
    try clear hfz23_1
    try clear hfz26_0
    try clear hfz26_1
    try clear hfz30_0
    try clear hfz30_1
    try clear p2
    obtain⟨kq,x6_31,rfl,HA,HJ31,HO_243001,HO_244001,BK242,BK243,BK244,HB⟩:=hcut;cases kq with
    |zero=>exact absurd HA.1 (by simp [spec_GcdOfCubics.j1])
    |succ kj31=>
     have H:=HA.1;clear HA;simp only [spec_GcdOfCubics.j1] at H
     by_cases c34:x6_31=0
     ·rw [if_pos c34] at H;have c34b0:(x6_31==0)=true:=beq_iff_eq.mpr c34;have c34b1:(x6_31 !=0)=false:=bne_eq_false_iff_eq.mpr c34;clear c34;replace H:=qOb H;obtain⟨⟨t251,t252⟩,A350,H⟩:=H;replace H:((spec_l09Told.f t251 t252).bind fun bt255=>(some (bt255.1,bt255.2.1,bt255.2.2)))=some (r1,r2,r3):=H;have A35:=qAm A350;clear A350;replace H:=qOb H;obtain⟨⟨t255,t256,t259⟩,A360,H⟩:=H;replace H:(some (t255,t256,t259))=some (r1,r2,r3):=H;have A36:=qAm A360;clear A360;simp only [Option.some.injEq,Prod.mk.injEq] at H;obtain⟨rfl,rfl,rfl⟩:=H;have hnb37:=NB242_243.1;have hnc37:=NB243_242.1;have hnb38:=NB242_244.1;have hnc38:=NB244_242.1;have hcz39_0:wc.cell? ⟨gb242,0,none⟩=some (.int .i64 a0_0):=(blk_cell BK242.1 0).trans rfl;have hcz39_1:wc.cell? ⟨gb242,1,none⟩=some (.slice A0_1 l0_1.length c0_1):=(blk_cell BK242.1 1).trans rfl;have hfz39_0:=blk_frozen BK242.1 0;have hfz39_1:=blk_frozen BK242.1 1;have hnb40:=NB243_244.1;have hnc40:=NB244_243.1;have hcz41_0:wc.cell? ⟨gb243,0,none⟩=some (.int .i64 a1_0):=(blk_cell BK243.1 0).trans rfl;have hcz41_1:wc.cell? ⟨gb243,1,none⟩=some (.slice A1_1 l1_1.length c1_1):=(blk_cell BK243.1 1).trans rfl;have hfz41_0:=blk_frozen BK243.1 0;have hfz41_1:=blk_frozen BK243.1 1;go_wp2_with (first|((with_reducible refine gate_callee (f:=36) rfl ?_);refine goesL_ (some 32) rfl rfl Try.func36 (by kernel_rfl) rfl #[.agg #[.int .i64 a0_0,.slice A0_1 l0_1.length c0_1],.agg #[.int .i64 a1_0,.slice A1_1 l1_1.length c1_1]] rfl qB112 ?_;(with_reducible refine(spec_l09Gcd.calls kj31 a0_0 (fun k_=>(((P0_1_ k_∨P1_1_ k_)∨w.heap.size≤k_)∧(k_≠gb242∧(k_≠gb243∧k_≠gb244)))) _ _ l0_1 a1_0 (fun k_=>(((P0_1_ k_∨P1_1_ k_)∨w.heap.size≤k_)∧(k_≠gb242∧(k_≠gb243∧k_≠gb244)))) _ _ l1_1 t251 t252 _ ?side1 ?side2 A35.1).mono ?_);(case side1=>exact HO_243001.1);(case side2=>exact HO_244001.1);rintro e w42 ⟨v253,rfl,ho0,hb⟩;refine⟨_,rfl,?_⟩;have n0_:=qAm (Kd.V_elder' qB179 (Kd.R_base ho0) hb);have n1_:=qAm (Kd.V_elder' qB180 (Kd.R_base ho0) hb);have n2_:=qAm (Kd.R_lower (Kd.R_newM (M:=fun k_=>(w.heap.size≤k_)) (Kd.R_mono (ok':=fun k_=>True) ho0 (fun _ hk_=>trivial)) (below_size qB54) (fun k_ h_=>h_)) (below_size qB54));have n3_:=qAm (blk_below (g:=gb242) (o:=.cells #[.int .i64 a0_0,.slice A0_1 l0_1.length c0_1] 26 (0,0)) qB139 hb);have n4_:=qAm (blk_below (g:=gb243) (o:=.cells #[.int .i64 a1_0,.slice A1_1 l1_1.length c1_1] 26 (0,0)) qB140 hb);have n5_:=qAm (blk_below (g:=gb244) (o:=.cells #[.int .i64 0,.slice none 0 0] 26 (0,0)) qB141 hb);have n6_:=qAm (below_step qB54 hb);clear HO_243001;clear HO_244001;clear BK242;clear BK243;clear BK244;clear HB;have HO_243001:=n0_;have HO_244001:=n1_;have HO254:=n2_;have BK242:=n3_;have BK243:=n4_;have BK244:=n5_;have HB:=n6_;clear n0_ n1_ n2_ n3_ n4_ n5_ n6_;(try clear hb);(try clear hb2);(try clear hk);(try clear hi);(try clear ho0);obtain⟨Ao43,co43,eo43⟩:=Kd.R_slice HO254.1;subst eo43)|((with_reducible refine gate_callee (f:=35) rfl ?_);refine goesL_ (some 33) rfl rfl Try.func35 (by kernel_rfl) rfl #[.agg #[.int .i64 t251,.slice Ao43 t252.length co43]] rfl qB112 ?_;(with_reducible refine(spec_l09Told.calls t251 (fun k_=>some k_=(.slice Ao43 t252.length co43:Value).ownBlock) (.slice Ao43 t252.length co43) t252 t255 t256 t259 w _ ?side1 ?side2 A36.1).mono ?_);(case side1=>repeat(first|(with_reducible first|exact HB.1|apply below_alloc|apply pw_below_drewN|apply below_drew1|refine below_set ?_ GE242.1|refine below_set ?_ GE243.1|refine below_set ?_ GE244.1)|exact HB.1));(case side2=>exact Kd.R_tight rfl HO254.1);rintro e w44 ⟨v257,rfl,ho0,hb,hkp⟩;refine⟨_,rfl,?_⟩;have n0_:=qAm (Kd.V_mono (ok':=fun k_=>((P0_1_ k_∨P1_1_ k_)∨w.heap.size≤k_)∧k_≠gb242∧k_≠gb243∧k_≠gb244∧some k_≠(v257:Value).ownBlock) (Kd.V_keptB (HO_243001.1) hkp (fun k_ hk_ hs_=>(hk_.2) hs_)) (fun k_ hk_=>⟨hk_.1.1.1,hk_.1.1.2.1,hk_.1.1.2.2.1,hk_.1.1.2.2.2,fun e_=>Or.elim (ho0.1 k_ e_.symm) (fun hs_=>hk_.2.1 hs_) (fun hn_=>Nat.not_le.2 hk_.2.2 hn_)⟩));have n1_:=qAm (Kd.V_mono (ok':=fun k_=>((P0_1_ k_∨P1_1_ k_)∨w.heap.size≤k_)∧k_≠gb242∧k_≠gb243∧k_≠gb244∧some k_≠(v257:Value).ownBlock) (Kd.V_keptB (HO_244001.1) hkp (fun k_ hk_ hs_=>(hk_.2) hs_)) (fun k_ hk_=>⟨hk_.1.1.1,hk_.1.1.2.1,hk_.1.1.2.2.1,hk_.1.1.2.2.2,fun e_=>Or.elim (ho0.1 k_ e_.symm) (fun hs_=>hk_.2.1 hs_) (fun hn_=>Nat.not_le.2 hk_.2.2 hn_)⟩));have n2_:=qAm (blk_kept qB139 hkp (fun hs_=>(fun e_=>(Kd.R_ne HO254.1 BK242.1 (by decide)) e_) hs_));have n3_:=qAm (blk_kept qB140 hkp (fun hs_=>(fun e_=>(Kd.R_ne HO254.1 BK243.1 (by decide)) e_) hs_));have n4_:=qAm (blk_kept qB141 hkp (fun hs_=>(fun e_=>(Kd.R_ne HO254.1 BK244.1 (by decide)) e_) hs_));have n5_:=qAm (Kd.R_mono (ok':=fun k_=>(w.heap.size≤k_)) ho0 (fun k_ hk_=>Or.elim hk_ (fun hs_=>(HO254.1.1 k_ (hs_).symm).1) (fun hn_=>(Nat.le_trans (below_size qB54) hn_))));have n6_:=qAm (hb);clear HO_243001;clear HO_244001;clear BK242;clear BK243;clear BK244;clear HB;clear HO254;have HO_243001:=n0_;have HO_244001:=n1_;have BK242:=n2_;have BK243:=n3_;have BK244:=n4_;have HO258:=n5_;have HB:=n6_;clear n0_ n1_ n2_ n3_ n4_ n5_ n6_;(try clear hb);(try clear hkp);(try clear ho0))|((with_reducible refine gate_dst (N:=7) rfl ?_);refine box_event ?hg (N:=7) ?hd (cs:=#[.int .i64 0,.slice none 0 0]) (t:=26) ?hr ?_;(case hd=>rfl);(case hg=>rfl);(case hr=>first|(go_simp;done)|(go_simp;rfl));intro gb260 hg w45 hbox hb;have n0_:=qAm (Kd.V_below (Kd.V_elderB qB179 gb260 (Nat.le_of_eq hg.symm)) hb);have n1_:=qAm (Kd.V_below (Kd.V_elderB qB180 gb260 (Nat.le_of_eq hg.symm)) hb);have n2_:=qAm (Kd.R_below (by (with_reducible repeat(first|apply Kd.R_alloc|apply Kd.R_drewN|apply Kd.R_drew));exact HO258.1) hb);have n3_:=qAm (blk_below (g:=gb242) (o:=.cells #[.int .i64 a0_0,.slice A0_1 l0_1.length c0_1] 26 (0,0)) qB139 hb);have n4_:=qAm (blk_below (g:=gb243) (o:=.cells #[.int .i64 a1_0,.slice A1_1 l1_1.length c1_1] 26 (0,0)) qB140 hb);have n5_:=qAm (blk_below (g:=gb244) (o:=.cells #[.int .i64 0,.slice none 0 0] 26 (0,0)) qB141 hb);have n6_:=qAm (below_step qB54 hb);have n7_:=qAm (hbox);have n8_:=qAm ((by rw [hg];exact(below_size qB54):w.heap.size≤gb260));have n9_:=qAm ((by rw [hg];exact(below_size qB54):w.heap.size≤gb260));have n10_:=qAm ((by rw [hg];exact Nat.ne_of_lt (blk_lt (g:=gb242) (o:=.cells #[.int .i64 a0_0,.slice A0_1 l0_1.length c0_1] 26 (0,0)) qB139):gb242≠gb260));have n11_:=qAm ((by rw [hg];exact Nat.ne_of_gt (blk_lt (g:=gb242) (o:=.cells #[.int .i64 a0_0,.slice A0_1 l0_1.length c0_1] 26 (0,0)) qB139):gb260≠gb242));have n12_:=qAm ((by rw [hg];exact Nat.ne_of_lt (blk_lt (g:=gb243) (o:=.cells #[.int .i64 a1_0,.slice A1_1 l1_1.length c1_1] 26 (0,0)) qB140):gb243≠gb260));have n13_:=qAm ((by rw [hg];exact Nat.ne_of_gt (blk_lt (g:=gb243) (o:=.cells #[.int .i64 a1_0,.slice A1_1 l1_1.length c1_1] 26 (0,0)) qB140):gb260≠gb243));have n14_:=qAm ((by rw [hg];exact Nat.ne_of_lt (blk_lt (g:=gb244) (o:=.cells #[.int .i64 0,.slice none 0 0] 26 (0,0)) qB141):gb244≠gb260));have n15_:=qAm ((by rw [hg];exact Nat.ne_of_gt (blk_lt (g:=gb244) (o:=.cells #[.int .i64 0,.slice none 0 0] 26 (0,0)) qB141):gb260≠gb244));clear HO_243001;clear HO_244001;clear HO258;clear BK242;clear BK243;clear BK244;clear HB;have HO_243001:=n0_;have HO_244001:=n1_;have HO258:=n2_;have BK242:=n3_;have BK243:=n4_;have BK244:=n5_;have HB:=n6_;have BK260:=n7_;have GW260:=n8_;have GE260:=n9_;have NB242_260:=n10_;have NB260_242:=n11_;have NB243_260:=n12_;have NB260_243:=n13_;have NB244_260:=n14_;have NB260_244:=n15_;clear n0_ n1_ n2_ n3_ n4_ n5_ n6_ n7_ n8_ n9_ n10_ n11_ n12_ n13_ n14_ n15_;clear hb hbox hg;have hnb46:=NB260_242.1;have hnc46:=NB242_260.1;have hnb47:=NB260_243.1;have hnc47:=NB243_260.1;have hnb48:=NB260_244.1;have hnc48:=NB244_260.1;have hcz49_0:w45.cell? ⟨gb260,0,none⟩=some (.int .i64 0):=(blk_cell BK260.1 0).trans rfl;have hcz49_1:w45.cell? ⟨gb260,1,none⟩=some (.slice none 0 0):=(blk_cell BK260.1 1).trans rfl;have hfz49_0:=blk_frozen BK260.1 0;have hfz49_1:=blk_frozen BK260.1 1;obtain⟨Ao50,co50,eo50⟩:=Kd.R_slice HO258.1;subst eo50;have hcz51_0:w45.cell? ⟨gb244,0,none⟩=some (.int .i64 0):=(blk_cell BK244.1 0).trans rfl;have hcz51_1:w45.cell? ⟨gb244,1,none⟩=some (.slice none 0 0):=(blk_cell BK244.1 1).trans rfl;have hfz51_0:=blk_frozen BK244.1 0;have hfz51_1:=blk_frozen BK244.1 1));refine bodyPost_ret (results_ct rfl _ _ gb244 26 #[.int .i64 t255,.slice Ao50 t256.length co50] (0,0) _ rfl (by (with_reducible repeat(first|refine blk_drewN ?_ _|refine blk_drew ?_|refine blk_alloc ?_ _));refine blk_put (cs:=#[.int .i64 t255,.slice none 0 0]) ?_ 1 _ rfl;(with_reducible repeat(first|refine blk_drewN ?_ _|refine blk_drew ?_|refine blk_alloc ?_ _));refine blk_put (cs:=#[.int .i64 0,.slice none 0 0]) ?_ 0 _ rfl;(with_reducible repeat(first|refine blk_drewN ?_ _|refine blk_drew ?_|refine blk_alloc ?_ _));refine blk_far ?_ NB244_260.1 _;(with_reducible repeat(first|refine blk_drewN ?_ _|refine blk_drew ?_|refine blk_alloc ?_ _));refine blk_far ?_ NB244_260.1 _;(with_reducible repeat(first|refine blk_drewN ?_ _|refine blk_drew ?_|refine blk_alloc ?_ _));exact BK244.1) Try.underlying26 rfl (by kernel_rfl)) rfl ?_;exact⟨_,by first|rfl|(simp [errW_none,errW_some] <;> rfl)|(simp [*,errW_none,errW_some] <;> rfl),by (with_reducible repeat(first|apply Kd.R_alloc|apply Kd.R_drewN|apply Kd.R_drew));exact Kd.R_mono (Kd.R_far (p:=⟨gb244,1,none⟩) (Kd.R_far (p:=⟨gb244,0,none⟩) (Kd.R_far (p:=⟨gb260,1,none⟩) (Kd.R_far (p:=⟨gb260,0,none⟩) (Kd.R_types (Kd.R_types HO258.1 BK260.1 (by decide)) BK244.1 (by decide)) (fun _ hk=>hk.1.2) (.int .i64 t255)) (fun _ hk=>hk.1.2) (.slice Ao50 t256.length co50)) (fun _ hk=>hk.2) (.int .i64 t255)) (fun _ hk=>hk.2) (.slice Ao50 t256.length co50)) (fun _ hk=>hk.1.1),by repeat(first|(with_reducible first|exact HB.1|apply below_alloc|apply pw_below_drewN|apply below_drew1|refine below_set ?_ GE242.1|refine below_set ?_ GE243.1|refine below_set ?_ GE244.1|refine below_set ?_ GE260.1)|exact HB.1)⟩
     ·rw [if_neg c34] at H;have c34b0:(x6_31==0)=false:=beq_eq_false_iff_ne.mpr c34;have c34b1:(x6_31 !=0)=true:=bne_iff_ne.mpr c34;simp only [Option.some.injEq,Prod.mk.injEq] at H;obtain⟨rfl,rfl,rfl⟩:=H;have hnb52:=NB244_242.1;have hnc52:=NB242_244.1;have hnb53:=NB244_243.1;have hnc53:=NB243_244.1;have hcz54_0:wc.cell? ⟨gb244,0,none⟩=some (.int .i64 0):=(blk_cell BK244.1 0).trans rfl;have hcz54_1:wc.cell? ⟨gb244,1,none⟩=some (.slice none 0 0):=(blk_cell BK244.1 1).trans rfl;have hfz54_0:=blk_frozen BK244.1 0;have hfz54_1:=blk_frozen BK244.1 1;go_wp2;refine bodyPost_ret (results_ct rfl _ _ gb244 26 #[.int .i64 0,.slice none 0 0] (0,0) _ rfl (by (with_reducible repeat(first|refine blk_drewN ?_ _|refine blk_drew ?_|refine blk_alloc ?_ _));refine blk_put (cs:=#[.int .i64 0,.slice none 0 0]) ?_ 1 _ rfl;(with_reducible repeat(first|refine blk_drewN ?_ _|refine blk_drew ?_|refine blk_alloc ?_ _));refine blk_put (cs:=#[.int .i64 0,.slice none 0 0]) ?_ 0 _ rfl;(with_reducible repeat(first|refine blk_drewN ?_ _|refine blk_drew ?_|refine blk_alloc ?_ _));exact BK244.1) Try.underlying26 rfl (by kernel_rfl)) rfl ?_;exact⟨_,by first|rfl|(simp [errW_none,errW_some] <;> rfl)|(simp [*,errW_none,errW_some] <;> rfl),by first|exact Kd.R_nil _ _ _ _ _|exact Kd.N_nil _ _ _ _ _|exact Kd.V_nil _ _ _ _ _|exact Kd.Q_nil _ _ _ _ _|exact Kd.S_nil _ _ _ _ _,by repeat(first|(with_reducible first|exact HB.1|apply below_alloc|apply pw_below_drewN|apply below_drew1|refine below_set ?_ GE242.1|refine below_set ?_ GE243.1|refine below_set ?_ GE244.1)|exact HB.1)⟩

-- NOT PRINTED: function 75 (slices_IndexFunc_int64_int64)

-- NOT PRINTED: function 68 (slices_ContainsFunc_int64_int64)

/-! ### impl_areSmall: function 58 -/
def impl_areSmall.f (l0:List Int) (a1:Int):Option (Bool):=some (l0.all fun n_=>decide (wrap64 (-a1)≤n_) && decide (n_≤a1))
-- HAND
theorem hsm_within (a0 a1 a2:Int) (w:World):
  Calls Try.prog 48 #[.int .i64 a0,.int .i64 a1,.int .i64 a2] w fun e w'=>e=.returned (.bool (decide (a1≤a0) && decide (a0≤a2)))∧Drawn0 w w':=by
 by_cases h1:a1≤a0 <;> by_cases h2:a0≤a2
 all_goals
  go_enter Try.func48,Try.ntmps48;go_wp2;go_ret;exact⟨by simp [*],Drawn0.refl _⟩

theorem hsm_cl (n m:Int) (B:Nat) (w:World) (hc:w.cell? ⟨B,0,none⟩=some (.int .i64 m)):
  Calls Try.prog 69 #[.int .i64 n,.pointer (some ⟨B,0,none⟩)] w fun e w'=>e=.returned (.bool (!(decide (wrap64 (-m)≤n) && decide (n≤m))))∧Drawn0 w w':=by
 go_enter Try.func69,Try.ntmps69;go_wp2_with (go_at_call 48;refine(hsm_within _ _ _ _).mono ?_;rintro e w' ⟨rfl,⟨nd,rfl⟩⟩);go_ret;exact⟨by simp,⟨_,rfl⟩⟩

def hsm_p (m n:Int):Bool:=decide (wrap64 (-m)≤n) && decide (n≤m)
def hsm_ix (m:Int) (l:List Int) (i:Int):Prop:=decide (0≤i)=!(l.all (hsm_p m))

theorem hsm_all {m:Int} {l:List Int} (h:∀j,j<l.length→hsm_p m (l.getD j 0)=true):l.all (hsm_p m)=true:=by
 rw [List.all_eq_true];intro x hx;obtain⟨j,hj,rfl⟩:=List.getElem_of_mem hx;have:=h j hj
 rwa [List.getD_eq_getElem?_getD,List.getElem?_eq_getElem hj] at this

theorem hsm_any {m:Int} {l:List Int} {j:Nat} (hj:j<l.length) (h:hsm_p m (l.getD j 0)=false):l.all (hsm_p m)=false:=by
 rw [Bool.eq_false_iff];intro h2;rw [List.all_eq_true] at h2;have:=h2 (l.getD j 0) (by rw [List.getD_eq_getElem?_getD,List.getElem?_eq_getElem hj];exact List.getElem_mem hj);rw [h] at this;cases this

theorem hsm_cl' (n m:Int) (B:Nat) (w:World) (b:Bool) (hc:w.cell? ⟨B,0,none⟩=some (.int .i64 m)) (hb:hsm_p m n=b):
  Calls Try.prog 69 #[.int .i64 n,.pointer (some ⟨B,0,none⟩)] w fun e w'=>e=.returned (.bool (!b))∧Drawn0 w w':=by
 subst hb;exact hsm_cl n m B w hc

set_option maxHeartbeats 1000000 in
theorem hsm_index (A:Option Addr) (c:Nat) (l:List Int) (m:Int) (B:Nat) (w:World) (hr:Kd.C (Kd.int .i64) w A l.length l) (hc:w.cell? ⟨B,0,none⟩=some (.int .i64 m)):
  Calls Try.prog 75 #[.slice A l.length c,.func (.func 69) #[] #[.pointer (some ⟨B,0,none⟩)]] w fun e w'=>∃i:Int,e=.returned (.int .i64 i)∧Aside0 (hsm_ix m l i)∧Drawn0 w w':=by
 have HR:=qAm hr;have HL:l.length≤9223372036854775807:=hr.2.1;clear hr;go_enter Try.func75,Try.ntmps75;go_wp2;go_loopg [8] (l.length+1) (fun kq v8 w'=>∃k:Nat,v8=.int .i64 k∧Aside0 (kq+k=l.length+1∧k≤l.length∧∀j,j<k→hsm_p m (l.getD j 0)=true)∧Drawn0 w w')
 case atStart=>exact⟨0,rfl,⟨by omega,by omega,fun j hj=>by omega⟩,Drawn0.refl _⟩
 case round=>
  obtain⟨k,rfl,HA,⟨m1,rfl⟩⟩:=hrel
  by_cases hlt:k<l.length
  ·obtain⟨ad,hA,hx⟩:=Kd.at_int HR.1 (k:Int) (by omega) (by omega);cases hA
   have hx':w.cell? (ad.add k)=some (.int .i64 (rd l k)):=by simpa using hx
   clear hx;cases hb:hsm_p m (rd l k) with
   |true=>
    have HB:=qAm hb;clear hb;go_wp2_with (go_at_call 69;refine(hsm_cl' _ _ _ _ true (by simpa using hc) HB.1).mono ?_;rintro e w' ⟨rfl,⟨nd,rfl⟩⟩);go_roundg (gk - 1)
    case measure=>have:=HA.1;omega
    case rel=>
     refine⟨k+1,by go_num,⟨by have:=HA.1;omega,by omega,fun j hj=>?_⟩,⟨_,rfl⟩⟩
     by_cases hj':j<k
     ·exact HA.1.2.2 j hj'
     ·obtain rfl:j=k:=by omega
      exact HB.1
   |false=>
    have HB:=qAm hb;clear hb;go_wp2_with (go_at_call 69;refine(hsm_cl' _ _ _ _ false (by simpa using hc) HB.1).mono ?_;rintro e w' ⟨rfl,⟨nd,rfl⟩⟩);go_ret;exact⟨(k:Int),rfl,⟨by unfold hsm_ix;rw [hsm_any hlt HB.1];simp⟩,⟨_,rfl⟩⟩
  ·go_wp2;go_ret;exact⟨-1,rfl,⟨by unfold hsm_ix;rw [hsm_all (fun j hj=>HA.1.2.2 j (by omega))];simp⟩,⟨_,rfl⟩⟩

theorem hsm_contains (A:Option Addr) (c:Nat) (l:List Int) (m:Int) (B:Nat) (w:World) (hr:Kd.C (Kd.int .i64) w A l.length l) (hc:w.cell? ⟨B,0,none⟩=some (.int .i64 m)):
  Calls Try.prog 68 #[.slice A l.length c,.func (.func 69) #[] #[.pointer (some ⟨B,0,none⟩)]] w fun e w'=>e=.returned (.bool (!(l.all (hsm_p m))))∧Drawn0 w w':=by
 have HR:=qAm hr;clear hr;go_enter Try.func68,Try.ntmps68;go_wp2_with (go_at_call 75;refine(hsm_index _ _ l m B _ HR.1 hc).mono ?_;rintro e w' ⟨i,rfl,hi,⟨nd,rfl⟩⟩);go_ret;exact⟨by have:=hi.1;unfold hsm_ix at this;rw [← this];rfl,⟨_,rfl⟩⟩
set_option maxHeartbeats 8000000 in
set_option maxRecDepth 100000 in
theorem impl_areSmall.calls (A0:Option Addr) (c0:Nat) (l0:List Int) (a1:Int) (r:Bool) (w:World) (hr0:Kd.C (Kd.int .i64) w A0 l0.length l0) (hc0:l0.length≤c0) (h:impl_areSmall.f l0 a1=some r):
  Calls Try.prog 58 #[.slice A0 l0.length c0,.int .i64 a1] w fun e w'=>e=.returned (.bool r)∧Below w.heap.size w w':=by
 have HR:=qAm hr0;clear hr0;obtain rfl:r=l0.all (hsm_p a1):=(Option.some.inj h).symm;clear h;have hmf:∀(fn:Fn) (first cap:Array Value) (w:World),(Instr.makeFunc fn first cap).run Try.prog w=.ok (.func fn first cap) w:=fun _ _ _ _=>rfl
 go_enter Try.func58,Try.ntmps58;go_wp2_with (go_at_call 68;refine(hsm_contains _ _ l0 a1 w.heap.size _ (Kd.C_below HR.1 (below_alloc (Below.refl _ _) _)) (by simp)).mono ?_;rintro e w' ⟨rfl,⟨nd,rfl⟩⟩);go_ret;exact⟨by simp,pw_below_drewN (below_alloc (Below.refl _ _) _) _⟩

/-! ### impl_within: function 48 -/
def impl_within.f (a0:Int) (a1:Int) (a2:Int):Option (Bool):=if a1≤a0 then (some (decide (a0≤a2))) else (some false)
set_option maxHeartbeats 8000000 in
set_option maxRecDepth 100000 in
theorem impl_within.calls (a0:Int) (a1:Int) (a2:Int) (r:Bool) (w:World) (h:impl_within.f a0 a1 a2=some r):
  Calls Try.prog 48 #[.int .i64 a0,.int .i64 a1,.int .i64 a2] w fun e w'=>e=.returned (.bool r)∧Drawn0 w w':=by
 have H:(if a1≤a0 then (some (decide (a0≤a2))) else (some false))=some r:=h;clear h
 by_cases c4:a1≤a0
 ·rw [if_pos c4] at H;have c4b0:decide (a1≤a0)=true:=decide_eq_true c4;clear c4;obtain rfl:=Option.some.inj H;go_enter Try.func48,Try.ntmps48;go_wp2;go_ret;exact⟨by first|rfl|(simp;done)|(simp [*];done),by repeat(first|exact Drawn0.refl _|apply Drawn0.step)⟩
 ·rw [if_neg c4] at H;have c4b0:decide (a1≤a0)=false:=decide_eq_false c4;clear c4;obtain rfl:=Option.some.inj H;go_enter Try.func48,Try.ntmps48;go_wp2;go_ret;exact⟨by first|rfl|(simp;done)|(simp [*];done),by repeat(first|exact Drawn0.refl _|apply Drawn0.step)⟩

/-! ### impl_isOrder: function 73 -/
def impl_isOrder.f (a0:Int):Option (Bool):=(impl_within.f a0 1 16).bind fun t261=>(some t261)
set_option maxHeartbeats 8000000 in
set_option maxRecDepth 100000 in
theorem impl_isOrder.calls (a0:Int) (r:Bool) (w:World) (h:impl_isOrder.f a0=some r):
  Calls Try.prog 73 #[.int .i64 a0] w fun e w'=>e=.returned (.bool r)∧Drawn0 w w':=by
 have H:((impl_within.f a0 1 16).bind fun t261=>(some t261))=some r:=h;clear h;replace H:=qOb H;obtain⟨t261,A20,H⟩:=H;replace H:(some t261)=some r:=H;have A2:=qAm A20;clear A20;obtain rfl:=Option.some.inj H;go_enter Try.func73,Try.ntmps73;go_wp2_with (first|((with_reducible refine gate_callee (f:=48) rfl ?_);refine goesL_ (some 4) rfl rfl Try.func48 (by kernel_rfl) rfl #[.int .i64 a0,.int .i64 1,.int .i64 16] rfl qB112 ?_;(with_reducible refine(impl_within.calls a0 1 16 t261 _ A2.1).mono ?_);rintro e w' ⟨rfl,⟨nd,rfl⟩⟩;refine⟨_,rfl,?_⟩));go_ret;exact⟨by first|rfl|(simp;done)|(simp [*];done),by repeat(first|exact Drawn0.refl _|apply Drawn0.step)⟩

/-! ### impl_size: function 82 -/
def impl_size.f (a0:Int):Option (Int):=some (mx a0 (wrap64 (-a0)))
set_option maxHeartbeats 8000000 in
set_option maxRecDepth 100000 in
theorem impl_size.calls (a0:Int) (r:Int) (w:World) (h:impl_size.f a0=some r):
  Calls Try.prog 82 #[.int .i64 a0] w fun e w'=>e=.returned (.int .i64 r)∧Below w.heap.size w w':=by
 have HB:=qAm (Below.refl w.heap.size w);have H:(some (mx a0 (wrap64 (-a0))))=some r:=h;clear h;obtain⟨ji2,hji2⟩:∃j_:Int,(mx a0 (wrap64 (-a0)))=j_:=⟨_,rfl⟩
 replace H:(some ji2)=some r:=by first|(rw [hji2] at H;exact H)|(simp only [hji2] at H ⊢;exact H)
 have hji2_:(if a0<(wrap64 (-a0)) then (wrap64 (-a0)) else a0)=ji2:=hji2;obtain rfl:=Option.some.inj H;go_enter Try.func82,Try.ntmps82;go_wp2;go_ret;exact⟨by first|rfl|(simp [errW_none,errW_some] <;> rfl)|(simp only [← hji2];first|rfl|(simp [errW_none,errW_some] <;> rfl))|(simp [*,errW_none,errW_some] <;> rfl),by repeat(first|(with_reducible first|exact HB.1|apply below_alloc|apply pw_below_drewN|apply below_drew1)|exact HB.1)⟩

/-! ### impl_gcd: function 80 -/
def impl_gcd.l0:Nat→Int→Int→Option (Int)
 |0,_,_=>none
 |k+1,x0,x1=>if x1 > 0 then (if x1=0 then (none) else (impl_gcd.l0 k x1 (Int.tmod x0 x1))) else (some x0)
def impl_gcd.f (k:Nat) (a0:Int) (a1:Int):Option (Int):=(impl_size.f a0).bind fun t262=>((impl_size.f a1).bind fun t263=>(impl_gcd.l0 k t262 t263))
theorem impl_gcd.mono_l:∀k,(∀y0 y1,LeO (impl_gcd.l0 k y0 y1) (impl_gcd.l0 (k+1) y0 y1))
 |0=>fun _ _ r h=>by simp [impl_gcd.l0] at h
 |k+1=>by
  have ih0:=impl_gcd.mono_l k
  ·intro y0 y1;unfold impl_gcd.l0;repeat' first
   |(with_reducible exact ih0 _ _)
   |(with_reducible exact LeO.refl _)
   |(with_reducible exact LeO.none _)
   |(with_reducible refine LeO.ite ?_ ?_)
   |(with_reducible refine LeO.bind ?_ (fun _=>?_))
   |exact ih0 _ _
   |exact LeO.none _
   |refine LeO.ite ?_ ?_
   |refine LeO.bind ?_ (fun _=>?_)
theorem impl_gcd.mono:∀a0 a1 k,LeO (impl_gcd.f k a0 a1) (impl_gcd.f (k+1) a0 a1):=by
 intro a0 a1 k;have ih0:=impl_gcd.mono_l k;unfold impl_gcd.f;repeat' first
   |(with_reducible exact ih0 _ _)
   |(with_reducible exact LeO.refl _)
   |(with_reducible exact LeO.none _)
   |(with_reducible refine LeO.ite ?_ ?_)
   |(with_reducible refine LeO.bind ?_ (fun _=>?_))
   |exact ih0 _ _
   |exact LeO.none _
   |refine LeO.ite ?_ ?_
   |refine LeO.bind ?_ (fun _=>?_)
set_option maxHeartbeats 8000000 in
set_option maxRecDepth 100000 in
theorem impl_gcd.calls (k:Nat) (a0:Int) (a1:Int) (r:Int) (w:World) (h:impl_gcd.f k a0 a1=some r):
  Calls Try.prog 80 #[.int .i64 a0,.int .i64 a1] w fun e w'=>e=.returned (.int .i64 r)∧Below w.heap.size w w':=by
 have HB:=qAm (Below.refl w.heap.size w);have H:((impl_size.f a0).bind fun t262=>((impl_size.f a1).bind fun t263=>(impl_gcd.l0 k t262 t263)))=some r:=h;clear h;replace H:=qOb H;obtain⟨t262,A30,H⟩:=H;replace H:((impl_size.f a1).bind fun t263=>(impl_gcd.l0 k t262 t263))=some r:=H;have A3:=qAm A30;clear A30;replace H:=qOb H;obtain⟨t263,A40,H⟩:=H;replace H:(impl_gcd.l0 k t262 t263)=some r:=H;have A4:=qAm A40;clear A40;have H':=qAm H;clear H;go_enter Try.func80,Try.ntmps80;go_wp2_with (first|(go_at_call 82;(with_reducible refine(impl_size.calls a0 t262 _ A3.1).mono ?_);rintro e w5 ⟨rfl,hb⟩;have n0_:=qAm (below_step qB115 hb);clear HB;have HB:=n0_;clear n0_;(try clear hb);(try clear hb2);(try clear hk);(try clear hi))|(go_at_call 82;(with_reducible refine(impl_size.calls a1 t263 _ A4.1).mono ?_);rintro e w6 ⟨rfl,hb⟩;have n0_:=qAm (below_step qB115 hb);clear HB;have HB:=n0_;clear n0_;(try clear hb);(try clear hb2);(try clear hk);(try clear hi)));repeat(go_quiet (first|(go_at_call 82;(with_reducible refine(impl_size.calls a0 t262 _ A3.1).mono ?_);rintro e w5 ⟨rfl,hb⟩;have n0_:=qAm (below_step qB115 hb);clear HB;have HB:=n0_;clear n0_;(try clear hb);(try clear hb2);(try clear hk);(try clear hi))|(go_at_call 82;(with_reducible refine(impl_size.calls a1 t263 _ A4.1).mono ?_);rintro e w6 ⟨rfl,hb⟩;have n0_:=qAm (below_step qB115 hb);clear HB;have HB:=n0_;clear n0_;(try clear hb);(try clear hb2);(try clear hk);(try clear hi)));try go_wp2_with (first|(go_at_call 82;(with_reducible refine(impl_size.calls a0 t262 _ A3.1).mono ?_);rintro e w5 ⟨rfl,hb⟩;have n0_:=qAm (below_step qB115 hb);clear HB;have HB:=n0_;clear n0_;(try clear hb);(try clear hb2);(try clear hk);(try clear hi))|(go_at_call 82;(with_reducible refine(impl_size.calls a1 t263 _ A4.1).mono ?_);rintro e w6 ⟨rfl,hb⟩;have n0_:=qAm (below_step qB115 hb);clear HB;have HB:=n0_;clear n0_;(try clear hb);(try clear hb2);(try clear hk);(try clear hi))))
 try simp only [Act.put,qSa,qSc,qSb]
 go_loopg [0,1] k (fun kq v0 v1 w'=>∃(x0_1:Int) (x1_1:Int),v0=.int .i64 x0_1∧v1=.int .i64 x1_1∧Aside0 (impl_gcd.l0 kq x0_1 x1_1=some r)∧Aside0 (kq≤k)∧Aside0 (Below w.heap.size w w'))
 case atStart=>exact⟨(t262),(t263),qB223,qB223,H',⟨Nat.le_refl _⟩,⟨by repeat(first|(with_reducible first|exact HB.1|apply below_alloc|apply pw_below_drewN|apply below_drew1)|exact HB.1)⟩⟩
 case round=>
  clear H';try clear p2
  obtain⟨x0_1,x1_1,rfl,rfl,HA,HK1,HB⟩:=hrel;cases gk with
  |zero=>exact absurd HA.1 (by simp [impl_gcd.l0])
  |succ k1=>
   have H:=HA.1;clear HA;simp only [impl_gcd.l0] at H
   by_cases c7:x1_1 > 0
   ·rw [if_pos c7] at H;have c7b0:decide (0<x1_1)=true:=decide_eq_true c7;clear c7
    by_cases c8:x1_1=0
    ·rw [if_pos c8] at H;exact absurd H (by simp)
    ·rw [if_neg c8] at H;have c8b0:(x1_1==0)=false:=beq_eq_false_iff_ne.mpr c8;have c8b1:(x1_1 !=0)=true:=bne_iff_ne.mpr c8;have H':=qAm H;clear H;go_wp2;repeat(go_quiet (fail);try go_wp2)
     (first|go_roundg k1|((try simp only [add_plain] at *);go_roundg k1))
     case measure=>have:=HK1.1;omega
     case rel=>exact⟨(x1_1),(Int.tmod x0_1 x1_1),qB223,qB223,H',⟨by have:=HK1.1;omega⟩,⟨by repeat(first|(with_reducible first|exact HB.1|apply below_alloc|apply pw_below_drewN|apply below_drew1)|exact HB.1)⟩⟩
   ·rw [if_neg c7] at H;have c7b0:decide (0<x1_1)=false:=decide_eq_false c7;clear c7;obtain rfl:=Option.some.inj H;go_wp2;repeat(go_quiet (fail);try go_wp2)
    go_ret;exact⟨by first|rfl|(simp [errW_none,errW_some] <;> rfl)|(simp [*,errW_none,errW_some] <;> rfl),by repeat(first|(with_reducible first|exact HB.1|apply below_alloc|apply pw_below_drewN|apply below_drew1)|exact HB.1)⟩

/-! ### impl_totient: function 74 -/
def impl_totient.l0:Nat→Int→Int→Int→Option (Int)
 |0,_,_,_=>none
 |k+1,x0,x3,x4=>if x4≤x0 then ((impl_gcd.f k x4 x0).bind fun t264=>(if t264=1 then (impl_totient.l0 k x0 (wrap64 (x3+1)) (wrap64 (x4+1))) else (impl_totient.l0 k x0 x3 (wrap64 (x4+1))))) else (some x3)
def impl_totient.f (k:Nat) (a0:Int):Option (Int):=impl_totient.l0 k a0 0 1
theorem impl_totient.mono_l:∀k,(∀y0 y1 y2,LeO (impl_totient.l0 k y0 y1 y2) (impl_totient.l0 (k+1) y0 y1 y2))
 |0=>fun _ _ _ r h=>by simp [impl_totient.l0] at h
 |k+1=>by
  have ih0:=impl_totient.mono_l k
  ·intro y0 y1 y2;unfold impl_totient.l0;repeat' first
   |(with_reducible exact ih0 _ _ _)
   |(with_reducible exact impl_gcd.mono _ _ _)
   |(with_reducible exact LeO.refl _)
   |(with_reducible exact LeO.none _)
   |(with_reducible refine LeO.ite ?_ ?_)
   |(with_reducible refine LeO.bind ?_ (fun _=>?_))
   |exact ih0 _ _ _
   |exact impl_gcd.mono _ _ _
   |exact LeO.none _
   |refine LeO.ite ?_ ?_
   |refine LeO.bind ?_ (fun _=>?_)
theorem impl_totient.mono:∀a0 k,LeO (impl_totient.f k a0) (impl_totient.f (k+1) a0):=by
 intro a0 k;have ih0:=impl_totient.mono_l k;unfold impl_totient.f;repeat' first
   |(with_reducible exact ih0 _ _ _)
   |(with_reducible exact impl_gcd.mono _ _ _)
   |(with_reducible exact LeO.refl _)
   |(with_reducible exact LeO.none _)
   |(with_reducible refine LeO.ite ?_ ?_)
   |(with_reducible refine LeO.bind ?_ (fun _=>?_))
   |exact ih0 _ _ _
   |exact impl_gcd.mono _ _ _
   |exact LeO.none _
   |refine LeO.ite ?_ ?_
   |refine LeO.bind ?_ (fun _=>?_)
set_option maxHeartbeats 8000000 in
set_option maxRecDepth 100000 in
theorem impl_totient.calls (k:Nat) (a0:Int) (r:Int) (w:World) (h:impl_totient.f k a0=some r):
  Calls Try.prog 74 #[.int .i64 a0] w fun e w'=>e=.returned (.int .i64 r)∧Below w.heap.size w w':=by
 have HB:=qAm (Below.refl w.heap.size w);have H:(impl_totient.l0 k a0 0 1)=some r:=h;clear h;have H':=qAm H;clear H;go_enter Try.func74,Try.ntmps74;go_wp2;try simp only [Act.put,qSa,qSc,qSb]
 go_loopg [3,4] k (fun kq v3 v4 w'=>∃(x3_1:Int) (x4_1:Int),v3=.int .i64 x3_1∧v4=.int .i64 x4_1∧Aside0 (impl_totient.l0 kq a0 x3_1 x4_1=some r)∧Aside0 (kq≤k)∧Aside0 (Below w.heap.size w w'))
 case atStart=>exact⟨(0),(1),qB223,qB223,H',⟨Nat.le_refl _⟩,⟨by repeat(first|(with_reducible first|exact HB.1|apply below_alloc|apply pw_below_drewN|apply below_drew1)|exact HB.1)⟩⟩
 case round=>
  clear H';obtain⟨x3_1,x4_1,rfl,rfl,HA,HK1,HB⟩:=hrel;cases gk with
  |zero=>exact absurd HA.1 (by simp [impl_totient.l0])
  |succ k1=>
   have H:=HA.1;clear HA;simp only [impl_totient.l0] at H
   by_cases c2:x4_1≤a0
   ·rw [if_pos c2] at H;have c2b0:decide (x4_1≤a0)=true:=decide_eq_true c2;clear c2;replace H:=qOb H;obtain⟨t264,A30,H⟩:=H;replace H:(if t264=1 then (impl_totient.l0 k1 a0 (wrap64 (x3_1+1)) (wrap64 (x4_1+1))) else (impl_totient.l0 k1 a0 x3_1 (wrap64 (x4_1+1))))=some r:=H;have A3:=qAm A30;clear A30
    by_cases c4:t264=1
    ·rw [if_pos c4] at H;have c4b0:(t264==1)=true:=beq_iff_eq.mpr c4;have c4b1:(t264 !=1)=false:=bne_eq_false_iff_eq.mpr c4;clear c4;have H':=qAm H;clear H;go_wp2_with (first|((with_reducible refine gate_callee (f:=80) rfl ?_);refine goesL_ (some 12) rfl rfl Try.func80 (by kernel_rfl) rfl #[.int .i64 x4_1,.int .i64 a0] rfl qB112 ?_;(with_reducible refine(impl_gcd.calls k1 x4_1 a0 t264 _ A3.1).mono ?_);rintro e w5 ⟨rfl,hb⟩;refine⟨_,rfl,?_⟩;have n0_:=qAm (below_step qB115 hb);clear HB;have HB:=n0_;clear n0_;(try clear hb);(try clear hb2);(try clear hk);(try clear hi)))
     (first|go_roundg k1|((try simp only [add_plain] at *);go_roundg k1))
     case measure=>have:=HK1.1;omega
     case rel=>exact⟨(wrap64 (x3_1+1)),(wrap64 (x4_1+1)),qB223,qB223,H',⟨by have:=HK1.1;omega⟩,⟨by repeat(first|(with_reducible first|exact HB.1|apply below_alloc|apply pw_below_drewN|apply below_drew1)|exact HB.1)⟩⟩
    ·rw [if_neg c4] at H;have c4b0:(t264==1)=false:=beq_eq_false_iff_ne.mpr c4;have c4b1:(t264 !=1)=true:=bne_iff_ne.mpr c4;have H':=qAm H;clear H;go_wp2_with (first|((with_reducible refine gate_callee (f:=80) rfl ?_);refine goesL_ (some 12) rfl rfl Try.func80 (by kernel_rfl) rfl #[.int .i64 x4_1,.int .i64 a0] rfl qB112 ?_;(with_reducible refine(impl_gcd.calls k1 x4_1 a0 t264 _ A3.1).mono ?_);rintro e w6 ⟨rfl,hb⟩;refine⟨_,rfl,?_⟩;have n0_:=qAm (below_step qB115 hb);clear HB;have HB:=n0_;clear n0_;(try clear hb);(try clear hb2);(try clear hk);(try clear hi)))
     (first|go_roundg k1|((try simp only [add_plain] at *);go_roundg k1))
     case measure=>have:=HK1.1;omega
     case rel=>exact⟨(x3_1),(wrap64 (x4_1+1)),qB223,qB223,H',⟨by have:=HK1.1;omega⟩,⟨by repeat(first|(with_reducible first|exact HB.1|apply below_alloc|apply pw_below_drewN|apply below_drew1)|exact HB.1)⟩⟩
   ·rw [if_neg c2] at H;have c2b0:decide (x4_1≤a0)=false:=decide_eq_false c2;clear c2;obtain rfl:=Option.some.inj H;go_wp2;go_ret;exact⟨by first|rfl|(simp [errW_none,errW_some] <;> rfl)|(simp [*,errW_none,errW_some] <;> rfl),by repeat(first|(with_reducible first|exact HB.1|apply below_alloc|apply pw_below_drewN|apply below_drew1)|exact HB.1)⟩

end Go.Proofs.Ytejpliodhnglbaa.PFnExactGcdOfCubics
