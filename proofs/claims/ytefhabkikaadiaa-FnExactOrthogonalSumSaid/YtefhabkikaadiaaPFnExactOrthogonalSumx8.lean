/- The functions that the law reaches, as plain functions, each with the proof that the program comes to it; no condition. Written by a program of this session (wip/mp.py) over the printing of the kit; what is marked HAND is told by hand. -/
import Derived.Test.YtefhabkikaadiaaPFnExactOrthogonalSumx0
import Derived.Test.YtefhabkikaadiaaPFnExactOrthogonalSumx2
namespace Go.Proofs.Ytefhabkikaadiaa.PFnExactOrthogonalSum
open Go.RowKit Go.Proofs.YtefhabkikaadiaaW.PrintWords Go.Proofs.YtefhabkikaadiaaW.PrintLast Go.Proofs.YtefhabkikaadiaaW.PrintMore
attribute [local go_sem] max2_int min2_int max_two min_two max_three min_three max_four min_four   -- for this text's walks alone
set_option linter.unusedVariables false
set_option linter.unusedSimpArgs false

/-! ### spec_l01Plus: function 74 -/
def spec_l01Plus.l0:Nat→Int→Int→Int→List Int→Int→List Int→Option (Int×List Int)
 |0,_,_,_,_,_,_=>none
 |k+1,x2,x8,x274000,x274001,x279000,x279001=>if x8<(x274001.length:Int) then (if 0≤x8 then (if x8<(x279001.length:Int) then (spec_l01Plus.l0 k x2 (wrap64 (x8+1)) x274000 x274001 x279000 (x279001.set (x8:Int).toNat (wrap64 ((rd x279001 x8)+(wrap64 (x2*(rd x274001 x8))))))) else (none)) else (none)) else (some (x279000,x279001))
def spec_l01Plus.f (k:Nat) (a0_0:Int) (l0_1:List Int) (a1_0:Int) (l1_1:List Int) (a2:Int):Option (Int×List Int):=(spec_l01Own.f l0_1).bind fun t275=>(spec_l01Plus.l0 k a2 0 a1_0 l1_1 a0_0 t275)
theorem spec_l01Plus.mono_l:∀k,(∀y0 y1 y2 y3 y4 y5,LeO (spec_l01Plus.l0 k y0 y1 y2 y3 y4 y5) (spec_l01Plus.l0 (k+1) y0 y1 y2 y3 y4 y5))
 |0=>fun _ _ _ _ _ _ r h=>by simp [spec_l01Plus.l0] at h
 |k+1=>by
  have ih0:=spec_l01Plus.mono_l k
  ·intro y0 y1 y2 y3 y4 y5;unfold spec_l01Plus.l0;repeat' first
   |(with_reducible exact ih0 _ _ _ _ _ _)
   |(with_reducible exact LeO.refl _)
   |(with_reducible exact LeO.none _)
   |(with_reducible refine LeO.ite ?_ ?_)
   |(with_reducible refine LeO.bind ?_ (fun _=>?_))
   |exact ih0 _ _ _ _ _ _
   |exact LeO.none _
   |refine LeO.ite ?_ ?_
   |refine LeO.bind ?_ (fun _=>?_)
theorem spec_l01Plus.mono:∀a0 a1 a2 a3 a4 k,LeO (spec_l01Plus.f k a0 a1 a2 a3 a4) (spec_l01Plus.f (k+1) a0 a1 a2 a3 a4):=by
 intro a0 a1 a2 a3 a4 k;have ih0:=spec_l01Plus.mono_l k;unfold spec_l01Plus.f;repeat' first
   |(with_reducible exact ih0 _ _ _ _ _ _)
   |(with_reducible exact LeO.refl _)
   |(with_reducible exact LeO.none _)
   |(with_reducible refine LeO.ite ?_ ?_)
   |(with_reducible refine LeO.bind ?_ (fun _=>?_))
   |exact ih0 _ _ _ _ _ _
   |exact LeO.none _
   |refine LeO.ite ?_ ?_
   |refine LeO.bind ?_ (fun _=>?_)
def spec_l01Plus.T1:Bool×List (List Nat×List Nat):=(true,[([],[]),([0],[0]),([],[]),([2],[2]),([3],[3]),([1,4],[1,4]),([],[]),([6,5,4,0,1,2,3,4,5,6],[5,6])])
def spec_l01Plus.B1:List Nat:=[0,1,0,4,12,31,0,127]
theorem spec_l01Plus.tab1:rtab .any (opsOf Try.f74 1)=spec_l01Plus.T1:=by kernel_rfl
theorem spec_l01Plus.bits1:waitsOk spec_l01Plus.T1.2 spec_l01Plus.B1=true:=by kernel_rfl
def spec_l01Plus.T5:Bool×List (List Nat×List Nat):=(true,[([],[]),([0],[0]),([],[]),([],[]),([3],[3]),([],[]),([4,5],[4,5]),([6],[6]),([],[]),([],[]),([9],[9]),([],[]),([10,11],[10,11]),([12],[12]),([8,13],[8,13]),([7,14],[7,14]),([1,2,0,1,2,3,4,5,6,7,8,9,10,11,12,13,14,15],[1,2]),([16,15,0,1,2,3,4,5,6,7,8,9,10,11,12,13,14,15],[15,16])])
def spec_l01Plus.B5:List Nat:=[0,1,0,0,8,0,56,120,0,0,512,0,3584,7680,16128,32760,65535,131071]
theorem spec_l01Plus.tab5:rtab .any (opsOf Try.f74 5)=spec_l01Plus.T5:=by kernel_rfl
theorem spec_l01Plus.bits5:waitsOk spec_l01Plus.T5.2 spec_l01Plus.B5=true:=by kernel_rfl
set_option maxHeartbeats 8000000 in
set_option maxRecDepth 100000 in
theorem spec_l01Plus.calls (k:Nat) (a0_0:Int) (A0_1:Option Addr) (c0_1:Nat) (l0_1:List Int) (a1_0:Int) (A1_1:Option Addr) (c1_1:Nat) (l1_1:List Int) (a2:Int) (r1:Int) (r2:List Int) (w:World) (hr0_1:Kd.C (Kd.int .i64) w A0_1 l0_1.length l0_1) (hc0_1:l0_1.length≤c0_1) (hr1_1:Kd.C (Kd.int .i64) w A1_1 l1_1.length l1_1) (hc1_1:l1_1.length≤c1_1) (h:spec_l01Plus.f k a0_0 l0_1 a1_0 l1_1 a2=some (r1,r2)):
  Calls Try.prog 74 #[.agg #[.int .i64 a0_0,.slice A0_1 l0_1.length c0_1],.agg #[.int .i64 a1_0,.slice A1_1 l1_1.length c1_1],.int .i64 a2] w fun e w'=>∃v1_:Value,e=.returned (.agg #[.int .i64 r1,v1_])∧Kd.R (Kd.int .i64) 2 w' w.heap.size (fun _=>True) v1_ r2∧Below w.heap.size w w':=by
 have hu28:=Try.underlying28;have HR0_1:=qAm hr0_1;have HC0_1:=qAm hc0_1;clear hr0_1 hc0_1;have HR1_1:=qAm hr1_1;have HC1_1:=qAm hc1_1;clear hr1_1 hc1_1;have HB:=qAm (Below.refl w.heap.size w);have H:((spec_l01Own.f l0_1).bind fun t275=>(spec_l01Plus.l0 k a2 0 a1_0 l1_1 a0_0 t275))=some (r1,r2):=h;clear h;replace H:=qOb H;obtain⟨t275,A40,H⟩:=H;replace H:(spec_l01Plus.l0 k a2 0 a1_0 l1_1 a0_0 t275)=some (r1,r2):=H;have A4:=qAm A40;clear A40;have H':=qAm H;clear H;go_enter Try.func74,Try.ntmps74;try go_wp2_with (first|((with_reducible refine gate_dst (N:=3) rfl ?_);refine box_event ?hg (N:=3) ?hd (cs:=#[.int .i64 a0_0,.slice A0_1 l0_1.length c0_1]) (t:=28) ?hr ?_;(case hd=>rfl);(case hg=>rfl);(case hr=>first|(go_simp;done)|(go_simp;rfl));intro gb272 hg w5 hbox hb;have n0_:=qAm (below_step qB95 hb);have n1_:=qAm (hbox);have n2_:=qAm ((by rw [hg];exact(below_size qB95):w.heap.size≤gb272));have n3_:=qAm ((by rw [hg];exact(below_size qB95):w.heap.size≤gb272));clear HB;have HB:=n0_;have BK272:=n1_;have GW272:=n2_;have GE272:=n3_;clear n0_ n1_ n2_ n3_;clear hb hbox hg)|((with_reducible refine gate_dst (N:=4) rfl ?_);refine box_event ?hg (N:=4) ?hd (cs:=#[.int .i64 a1_0,.slice A1_1 l1_1.length c1_1]) (t:=28) ?hr ?_;(case hd=>rfl);(case hg=>rfl);(case hr=>first|(go_simp;done)|(go_simp;rfl));intro gb273 hg w6 hbox hb;have n0_:=qAm (blk_below (g:=gb272) (o:=.cells #[.int .i64 a0_0,.slice A0_1 l0_1.length c0_1] 28 (0,0)) qB118 hb);have n1_:=qAm (below_step qB62 hb);have n2_:=qAm (hbox);have n3_:=qAm ((by rw [hg];exact(below_size qB62):w.heap.size≤gb273));have n4_:=qAm ((by rw [hg];exact(below_size qB62):w.heap.size≤gb273));have n5_:=qAm ((by rw [hg];exact Nat.ne_of_lt (blk_lt (g:=gb272) (o:=.cells #[.int .i64 a0_0,.slice A0_1 l0_1.length c0_1] 28 (0,0)) qB118):gb272≠gb273));have n6_:=qAm ((by rw [hg];exact Nat.ne_of_gt (blk_lt (g:=gb272) (o:=.cells #[.int .i64 a0_0,.slice A0_1 l0_1.length c0_1] 28 (0,0)) qB118):gb273≠gb272));clear BK272;clear HB;have BK272:=n0_;have HB:=n1_;have BK273:=n2_;have GW273:=n3_;have GE273:=n4_;have NB272_273:=n5_;have NB273_272:=n6_;clear n0_ n1_ n2_ n3_ n4_ n5_ n6_;clear hb hbox hg)|((with_reducible refine gate_dst (N:=6) rfl ?_);refine box_event ?hg (N:=6) ?hd (cs:=#[.int .i64 0,.slice none 0 0]) (t:=28) ?hr ?_;(case hd=>rfl);(case hg=>rfl);(case hr=>first|(go_simp;done)|(go_simp;rfl));intro gb274 hg w7 hbox hb;have n0_:=qAm (blk_below (g:=gb272) (o:=.cells #[.int .i64 a0_0,.slice A0_1 l0_1.length c0_1] 28 (0,0)) qB118 hb);have n1_:=qAm (blk_below (g:=gb273) (o:=.cells #[.int .i64 a1_0,.slice A1_1 l1_1.length c1_1] 28 (0,0)) qB119 hb);have n2_:=qAm (below_step qB39 hb);have n3_:=qAm (hbox);have n4_:=qAm ((by rw [hg];exact(below_size qB39):w.heap.size≤gb274));have n5_:=qAm ((by rw [hg];exact(below_size qB39):w.heap.size≤gb274));have n6_:=qAm ((by rw [hg];exact Nat.ne_of_lt (blk_lt (g:=gb272) (o:=.cells #[.int .i64 a0_0,.slice A0_1 l0_1.length c0_1] 28 (0,0)) qB118):gb272≠gb274));have n7_:=qAm ((by rw [hg];exact Nat.ne_of_gt (blk_lt (g:=gb272) (o:=.cells #[.int .i64 a0_0,.slice A0_1 l0_1.length c0_1] 28 (0,0)) qB118):gb274≠gb272));have n8_:=qAm ((by rw [hg];exact Nat.ne_of_lt (blk_lt (g:=gb273) (o:=.cells #[.int .i64 a1_0,.slice A1_1 l1_1.length c1_1] 28 (0,0)) qB119):gb273≠gb274));have n9_:=qAm ((by rw [hg];exact Nat.ne_of_gt (blk_lt (g:=gb273) (o:=.cells #[.int .i64 a1_0,.slice A1_1 l1_1.length c1_1] 28 (0,0)) qB119):gb274≠gb273));clear BK272;clear BK273;clear HB;have BK272:=n0_;have BK273:=n1_;have HB:=n2_;have BK274:=n3_;have GW274:=n4_;have GE274:=n5_;have NB272_274:=n6_;have NB274_272:=n7_;have NB273_274:=n8_;have NB274_273:=n9_;clear n0_ n1_ n2_ n3_ n4_ n5_ n6_ n7_ n8_ n9_;clear hb hbox hg))
 have n0_:=qAm (blk_drew BK272.1);have n1_:=qAm (blk_drew BK273.1);have n2_:=qAm (blk_drew BK274.1);have n3_:=qAm (below_drew1 HB.1);clear BK272 BK273 BK274 HB;have BK272:=n0_;have BK273:=n1_;have BK274:=n2_;have HB:=n3_;clear n0_ n1_ n2_ n3_;refine start_ (n:=8) (S:=fun w'=>w'.cell? ⟨gb272,0,none⟩=some (.int .i64 a0_0)∧w'.cell? ⟨gb272,1,none⟩=some (.slice A0_1 l0_1.length c0_1)) (ds:=[]) #[false,false,false,false,false,false,false,false] (by kernel_rfl) rfl rfl ⟨(blk_cell BK272.1 0).trans rfl,(blk_cell BK272.1 1).trans rfl⟩ (fun hHeld=>?_);refine with_tabW spec_l01Plus.tab1 spec_l01Plus.bits1 (fun HT_ HW_=>?_);generalize w7.drew=w8 at BK272 BK273 BK274 HB hHeld ⊢;refine pure_ (i:=0) (N:=some 9) (v:=?_) (a':=?_) #[true,false,false,false,false,false,false,false] rfl rfl (any_of HT_.1 (by kernel_rfl)) (fun _ _ _ h=>h) (Or.inl ⟨by rfl,?_⟩) ?_ ?_;rotate_left
 ·intro w';go_simp;with_reducible rfl
 rotate_left
 ·simp only [Act.put,qSa,qSb,qSc,i64_w,i32_w];rfl
 refine pure_ (i:=2) (N:=some 11) (v:=?_) (a':=?_) #[true,false,true,false,false,false,false,false] rfl rfl (any_of HT_.1 (by kernel_rfl)) (fun _ _ _ h=>h) (Or.inl ⟨by rfl,?_⟩) ?_ ?_;rotate_left
 ·intro w';go_simp;with_reducible rfl
 rotate_left
 ·simp only [Act.put,qSa,qSb,qSc,i64_w,i32_w];rfl
 refine take_ (i:=1) (N:=some 10) (v:=?_) (a':=?_) #[true,true,true,false,false,false,false,false] rfl rfl (take_ofW HT_.1 HW_.1 (by kernel_rfl)) (fun _ _ _ h=>h) (Or.inl ⟨by rfl,?_⟩) hHeld ?_ ?_;rotate_left
 ·rintro w' ⟨s0,s1⟩;go_simp;with_reducible rfl
 rotate_left
 ·simp only [Act.put,qSa,qSb,qSc,i64_w,i32_w];rfl
 refine take_ (i:=3) (N:=some 12) (v:=?_) (a':=?_) #[true,true,true,true,false,false,false,false] rfl rfl (take_ofW HT_.1 HW_.1 (by kernel_rfl)) (fun _ _ _ h=>h) (Or.inl ⟨by rfl,?_⟩) hHeld ?_ ?_;rotate_left
 ·rintro w' ⟨s0,s1⟩;go_simp;with_reducible rfl
 rotate_left
 ·simp only [Act.put,qSa,qSb,qSc,i64_w,i32_w];rfl
 refine join_ (σ:=Value×Nat) 1 #[true,true,true,true,true,true,true,false] (fun s_=>[(13,s_.1),(7,.pointer (some ⟨s_.2,0,none⟩)),(14,.agg #[.int .i64 a0_0,s_.1])]) (fun s_ w'=>(w'.cell? ⟨gb272,0,none⟩=some (.int .i64 a0_0)∧w'.cell? ⟨gb272,1,none⟩=some (.slice A0_1 l0_1.length c0_1))∧(Kd.R (Kd.int .i64) 2 w' w.heap.size (fun _=>True) s_.1 t275)∧(w'.heap[gb272]? =some (.cells #[.int .i64 a0_0,.slice A0_1 l0_1.length c0_1] 28 (0,0)))∧(w'.heap[gb273]? =some (.cells #[.int .i64 a1_0,.slice A1_1 l1_1.length c1_1] 28 (0,0)))∧(w'.heap[gb274]? =some (.cells #[.int .i64 0,.slice none 0 0] 28 (0,0)))∧(w'.heap[s_.2]? =some (.cells #[.int .i64 0,.slice none 0 0] 28 (0,0)))∧(w.heap.size≤s_.2)∧(w.heap.size≤s_.2)∧(gb272≠s_.2)∧(s_.2≠gb272)∧(gb273≠s_.2)∧(s_.2≠gb273)∧(gb274≠s_.2)∧(s_.2≠gb274)∧(Below w.heap.size w w')) ?_ ?_;rotate_left
 ·intro hCont;refine two_ (i:=4) (j:=6) (Ni:=some 13) (Nj:=some 7) #[true,true,true,true,true,false,false,false] #[true,true,true,true,false,false,true,false] rfl rfl rfl rfl (two_of HT_.1 (by kernel_rfl)) (by decide) (by decide) (fun K hK=>?_) (fun K hK=>?_)
  ·skip;refine goes_ Try.func119 (by kernel_rfl) rfl #[.slice A0_1 l0_1.length c0_1] (by rfl) rfl rfl qB90 ?_;with_reducible refine(spec_l01Own.calls _ _ l0_1 t275 _ ?side1 ?side2 A4.1).mono ?_
   (case side1=>repeat(first|exact(Kd.C_below HR0_1.1 HB.1)|(with_reducible refine Kd.C_alloc ?_ _)|(with_reducible refine Kd.C_drewN ?_ _)|(with_reducible refine Kd.C_drew ?_)))
   (case side2=>exact HC0_1.1)
   rintro e w9 ⟨v276,rfl,ho0,hb⟩;refine⟨_,rfl,?_⟩;have n0_:=qAm (Kd.R_lower ho0 (below_size qB27));have n1_:=qAm (blk_below (g:=gb272) (o:=.cells #[.int .i64 a0_0,.slice A0_1 l0_1.length c0_1] 28 (0,0)) qB118 hb);have n2_:=qAm (blk_below (g:=gb273) (o:=.cells #[.int .i64 a1_0,.slice A1_1 l1_1.length c1_1] 28 (0,0)) qB119 hb);have n3_:=qAm (blk_below (g:=gb274) (o:=.cells #[.int .i64 0,.slice none 0 0] 28 (0,0)) qB120 hb);have n4_:=qAm (below_step qB27 hb);clear BK272 BK273 BK274 HB;have HO277:=n0_;have BK272:=n1_;have BK273:=n2_;have BK274:=n3_;have HB:=n4_;clear n0_ n1_ n2_ n3_ n4_
   (try clear hb)
   (try clear hb2)
   (try clear hk)
   (try clear hi)
   (try clear ho0)
   obtain⟨Ao10,co10,eo10⟩:=Kd.R_slice HO277.1
   (first|subst eo10|(injection eo10 with f1_ f2_ f3_;have f4_:=f1_.symm;have f5_:=f3_.symm;clear f1_ f2_ f3_;subst f4_;subst f5_))
   refine hK.out _ _ ⟨(blk_cell BK272.1 0).trans rfl,(blk_cell BK272.1 1).trans rfl⟩ (fun hHeld=>?_);clear hK K;refine norm_ (a':=?_) ?_ ?_;rotate_left
   ·show Act.put _ (some 13) _=_
    simp only [Act.put,qSa,qSb,qSc,i64_w,i32_w];rfl
   refine pure_ (i:=5) (N:=some 14) (v:=?_) (a':=?_) #[true,true,true,true,true,true,false,false] rfl rfl (any_of HT_.1 (by kernel_rfl)) (fun _ _ _ h=>h) (Or.inl ⟨by rfl,?_⟩) ?_ ?_;rotate_left
   ·intro w';go_simp;with_reducible rfl
   rotate_left
   ·simp only [Act.put,qSa,qSb,qSc,i64_w,i32_w];rfl
   refine one_ (i:=6) (N:=some 7) #[true,true,true,true,true,true,true,false] rfl rfl (one_of HT_.1 (by kernel_rfl)) (by decide) (fun K hK=>?_);refine box_step ?hg (N:=7) ?hd (cs:=#[.int .i64 0,.slice none 0 0]) (t:=28) ?hr ?_;(case hd=>rfl);(case hg=>rfl);(case hr=>first|(go_simp;done)|(go_simp;rfl));intro gb278 hg w11 hbox hb;have n0_:=qAm (Kd.R_below qB155 hb);have n1_:=qAm (blk_below (g:=gb272) (o:=.cells #[.int .i64 a0_0,.slice A0_1 l0_1.length c0_1] 28 (0,0)) qB118 hb);have n2_:=qAm (blk_below (g:=gb273) (o:=.cells #[.int .i64 a1_0,.slice A1_1 l1_1.length c1_1] 28 (0,0)) qB119 hb);have n3_:=qAm (blk_below (g:=gb274) (o:=.cells #[.int .i64 0,.slice none 0 0] 28 (0,0)) qB120 hb);have n4_:=qAm (below_step qB27 hb);have n5_:=qAm (hbox);have n6_:=qAm ((by rw [hg];exact(below_size qB27):w.heap.size≤gb278));have n7_:=qAm ((by rw [hg];exact(below_size qB27):w.heap.size≤gb278));have n8_:=qAm ((by rw [hg];exact Nat.ne_of_lt (blk_lt (g:=gb272) (o:=.cells #[.int .i64 a0_0,.slice A0_1 l0_1.length c0_1] 28 (0,0)) qB118):gb272≠gb278));have n9_:=qAm ((by rw [hg];exact Nat.ne_of_gt (blk_lt (g:=gb272) (o:=.cells #[.int .i64 a0_0,.slice A0_1 l0_1.length c0_1] 28 (0,0)) qB118):gb278≠gb272));have n10_:=qAm ((by rw [hg];exact Nat.ne_of_lt (blk_lt (g:=gb273) (o:=.cells #[.int .i64 a1_0,.slice A1_1 l1_1.length c1_1] 28 (0,0)) qB119):gb273≠gb278));have n11_:=qAm ((by rw [hg];exact Nat.ne_of_gt (blk_lt (g:=gb273) (o:=.cells #[.int .i64 a1_0,.slice A1_1 l1_1.length c1_1] 28 (0,0)) qB119):gb278≠gb273));have n12_:=qAm ((by rw [hg];exact Nat.ne_of_lt (blk_lt (g:=gb274) (o:=.cells #[.int .i64 0,.slice none 0 0] 28 (0,0)) qB120):gb274≠gb278));have n13_:=qAm ((by rw [hg];exact Nat.ne_of_gt (blk_lt (g:=gb274) (o:=.cells #[.int .i64 0,.slice none 0 0] 28 (0,0)) qB120):gb278≠gb274));clear HO277 BK272 BK273 BK274 HB;have HO277:=n0_;have BK272:=n1_;have BK273:=n2_;have BK274:=n3_;have HB:=n4_;have BK278:=n5_;have GW278:=n6_;have GE278:=n7_;have NB272_278:=n8_;have NB278_272:=n9_;have NB273_278:=n10_;have NB278_273:=n11_;have NB274_278:=n12_;have NB278_274:=n13_;clear n0_ n1_ n2_ n3_ n4_ n5_ n6_ n7_ n8_ n9_ n10_ n11_ n12_ n13_ hb hbox hg;refine hK.out _ _ ⟨(blk_cell BK272.1 0).trans rfl,(blk_cell BK272.1 1).trans rfl⟩ (fun hHeld=>?_);clear hK K;refine norm_ (a':=?_) ?_ ?_;rotate_left
   ·show Act.put _ (some 7) _=_
    simp only [Act.put,qSa,qSb,qSc,i64_w,i32_w];rfl
   exact norm_ qB175 (hCont (.slice Ao10 t275.length co10,gb278) _ ⟨hHeld,qB155,qB118,qB119,qB120,qB121,GW278.1,GE278.1,NB272_278.1,NB278_272.1,NB273_278.1,NB278_273.1,NB274_278.1,NB278_274.1,qB23⟩)
  ·skip;refine box_step ?hg (N:=7) ?hd (cs:=#[.int .i64 0,.slice none 0 0]) (t:=28) ?hr ?_;(case hd=>rfl);(case hg=>rfl);(case hr=>first|(go_simp;done)|(go_simp;rfl));intro gb278 hg w9 hbox hb;have n0_:=qAm (blk_below (g:=gb272) (o:=.cells #[.int .i64 a0_0,.slice A0_1 l0_1.length c0_1] 28 (0,0)) qB118 hb);have n1_:=qAm (blk_below (g:=gb273) (o:=.cells #[.int .i64 a1_0,.slice A1_1 l1_1.length c1_1] 28 (0,0)) qB119 hb);have n2_:=qAm (blk_below (g:=gb274) (o:=.cells #[.int .i64 0,.slice none 0 0] 28 (0,0)) qB120 hb);have n3_:=qAm (below_step qB27 hb);have n4_:=qAm (hbox);have n5_:=qAm ((by rw [hg];exact(below_size qB27):w.heap.size≤gb278));have n6_:=qAm ((by rw [hg];exact(below_size qB27):w.heap.size≤gb278));have n7_:=qAm ((by rw [hg];exact Nat.ne_of_lt (blk_lt (g:=gb272) (o:=.cells #[.int .i64 a0_0,.slice A0_1 l0_1.length c0_1] 28 (0,0)) qB118):gb272≠gb278));have n8_:=qAm ((by rw [hg];exact Nat.ne_of_gt (blk_lt (g:=gb272) (o:=.cells #[.int .i64 a0_0,.slice A0_1 l0_1.length c0_1] 28 (0,0)) qB118):gb278≠gb272));have n9_:=qAm ((by rw [hg];exact Nat.ne_of_lt (blk_lt (g:=gb273) (o:=.cells #[.int .i64 a1_0,.slice A1_1 l1_1.length c1_1] 28 (0,0)) qB119):gb273≠gb278));have n10_:=qAm ((by rw [hg];exact Nat.ne_of_gt (blk_lt (g:=gb273) (o:=.cells #[.int .i64 a1_0,.slice A1_1 l1_1.length c1_1] 28 (0,0)) qB119):gb278≠gb273));have n11_:=qAm ((by rw [hg];exact Nat.ne_of_lt (blk_lt (g:=gb274) (o:=.cells #[.int .i64 0,.slice none 0 0] 28 (0,0)) qB120):gb274≠gb278));have n12_:=qAm ((by rw [hg];exact Nat.ne_of_gt (blk_lt (g:=gb274) (o:=.cells #[.int .i64 0,.slice none 0 0] 28 (0,0)) qB120):gb278≠gb274));clear BK272 BK273 BK274 HB;have BK272:=n0_;have BK273:=n1_;have BK274:=n2_;have HB:=n3_;have BK278:=n4_;have GW278:=n5_;have GE278:=n6_;have NB272_278:=n7_;have NB278_272:=n8_;have NB273_278:=n9_;have NB278_273:=n10_;have NB274_278:=n11_;have NB278_274:=n12_;clear n0_ n1_ n2_ n3_ n4_ n5_ n6_ n7_ n8_ n9_ n10_ n11_ n12_ hb hbox hg;refine hK.out _ _ ⟨(blk_cell BK272.1 0).trans rfl,(blk_cell BK272.1 1).trans rfl⟩ (fun hHeld=>?_);clear hK K;refine norm_ (a':=?_) ?_ ?_;rotate_left
   ·show Act.put _ (some 7) _=_
    simp only [Act.put,qSa,qSb,qSc,i64_w,i32_w];rfl
   refine one_ (i:=4) (N:=some 13) #[true,true,true,true,true,false,true,false] rfl rfl (one_of HT_.1 (by kernel_rfl)) (by decide) (fun K hK=>?_);refine goes_ Try.func119 (by kernel_rfl) rfl #[.slice A0_1 l0_1.length c0_1] (by rfl) rfl rfl qB90 ?_;with_reducible refine(spec_l01Own.calls _ _ l0_1 t275 _ ?side1 ?side2 A4.1).mono ?_
   (case side1=>repeat(first|exact(Kd.C_below HR0_1.1 HB.1)|(with_reducible refine Kd.C_alloc ?_ _)|(with_reducible refine Kd.C_drewN ?_ _)|(with_reducible refine Kd.C_drew ?_)))
   (case side2=>exact HC0_1.1)
   rintro e w10 ⟨v276,rfl,ho0,hb⟩;refine⟨_,rfl,?_⟩;have n0_:=qAm (Kd.R_lower ho0 (below_size qB23));have n1_:=qAm (blk_below (g:=gb272) (o:=.cells #[.int .i64 a0_0,.slice A0_1 l0_1.length c0_1] 28 (0,0)) qB118 hb);have n2_:=qAm (blk_below (g:=gb273) (o:=.cells #[.int .i64 a1_0,.slice A1_1 l1_1.length c1_1] 28 (0,0)) qB119 hb);have n3_:=qAm (blk_below (g:=gb274) (o:=.cells #[.int .i64 0,.slice none 0 0] 28 (0,0)) qB120 hb);have n4_:=qAm (blk_below (g:=gb278) (o:=.cells #[.int .i64 0,.slice none 0 0] 28 (0,0)) qB121 hb);have n5_:=qAm (below_step qB23 hb);clear BK272 BK273 BK274 BK278 HB;have HO277:=n0_;have BK272:=n1_;have BK273:=n2_;have BK274:=n3_;have BK278:=n4_;have HB:=n5_;clear n0_ n1_ n2_ n3_ n4_ n5_
   (try clear hb)
   (try clear hb2)
   (try clear hk)
   (try clear hi)
   (try clear ho0)
   obtain⟨Ao11,co11,eo11⟩:=Kd.R_slice HO277.1
   (first|subst eo11|(injection eo11 with f1_ f2_ f3_;have f4_:=f1_.symm;have f5_:=f3_.symm;clear f1_ f2_ f3_;subst f4_;subst f5_))
   refine hK.out _ _ ⟨(blk_cell BK272.1 0).trans rfl,(blk_cell BK272.1 1).trans rfl⟩ (fun hHeld=>?_);clear hK K;refine norm_ (a':=?_) ?_ ?_;rotate_left
   ·show Act.put _ (some 13) _=_
    simp only [Act.put,qSa,qSb,qSc,i64_w,i32_w];rfl
   refine pure_ (i:=5) (N:=some 14) (v:=?_) (a':=?_) #[true,true,true,true,true,true,true,false] rfl rfl (any_of HT_.1 (by kernel_rfl)) (fun _ _ _ h=>h) (Or.inl ⟨by rfl,?_⟩) ?_ ?_;rotate_left
   ·intro w';go_simp;with_reducible rfl
   rotate_left
   ·simp only [Act.put,qSa,qSb,qSc,i64_w,i32_w];rfl
   exact norm_ qB175 (hCont (.slice Ao11 t275.length co11,gb278) _ ⟨hHeld,qB155,qB118,qB119,qB120,qB121,GW278.1,GE278.1,NB272_278.1,NB278_272.1,NB273_278.1,NB278_273.1,NB274_278.1,NB278_274.1,qB23⟩)
 rintro⟨v276,gb278⟩ w12 ⟨hS_,h0_,h1_,h2_,h3_,h4_,h5_,h6_,h7_,h8_,h9_,h10_,h11_,h12_,h13_⟩;have n0_:Aside0 (Kd.R (Kd.int .i64) 2 w12 w.heap.size (fun _=>True) v276 t275):=⟨h0_⟩
 have n1_:Aside0 (w12.heap[gb272]? =some (.cells #[.int .i64 a0_0,.slice A0_1 l0_1.length c0_1] 28 (0,0))):=⟨h1_⟩
 have n2_:Aside0 (w12.heap[gb273]? =some (.cells #[.int .i64 a1_0,.slice A1_1 l1_1.length c1_1] 28 (0,0))):=⟨h2_⟩
 have n3_:Aside0 (w12.heap[gb274]? =some (.cells #[.int .i64 0,.slice none 0 0] 28 (0,0))):=⟨h3_⟩
 have n4_:Aside0 (w12.heap[gb278]? =some (.cells #[.int .i64 0,.slice none 0 0] 28 (0,0))):=⟨h4_⟩
 have n5_:Aside0 (w.heap.size≤gb278):=⟨h5_⟩
 have n6_:Aside0 (w.heap.size≤gb278):=⟨h6_⟩
 have n7_:Aside0 (gb272≠gb278):=⟨h7_⟩
 have n8_:Aside0 (gb278≠gb272):=⟨h8_⟩
 have n9_:Aside0 (gb273≠gb278):=⟨h9_⟩
 have n10_:Aside0 (gb278≠gb273):=⟨h10_⟩
 have n11_:Aside0 (gb274≠gb278):=⟨h11_⟩
 have n12_:Aside0 (gb278≠gb274):=⟨h12_⟩
 have n13_:Aside0 (Below w.heap.size w w12):=⟨h13_⟩
 clear BK272 BK273 BK274 HB h0_ h1_ h2_ h3_ h4_ h5_ h6_ h7_ h8_ h9_ h10_ h11_ h12_ h13_;have HO277:=n0_;have BK272:=n1_;have BK273:=n2_;have BK274:=n3_;have BK278:=n4_;have GW278:=n5_;have GE278:=n6_;have NB272_278:=n7_;have NB278_272:=n8_;have NB273_278:=n9_;have NB278_273:=n10_;have NB274_278:=n11_;have NB278_274:=n12_;have HB:=n13_;clear n0_ n1_ n2_ n3_ n4_ n5_ n6_ n7_ n8_ n9_ n10_ n11_ n12_ n13_;have hHeld:w12.cell? ⟨gb272,0,none⟩=some (.int .i64 a0_0)∧w12.cell? ⟨gb272,1,none⟩=some (.slice A0_1 l0_1.length c0_1):=hS_;obtain⟨Ao13,co13,eo13⟩:=Kd.R_slice HO277.1
 (first|subst eo13|(injection eo13 with f1_ f2_ f3_;have f4_:=f1_.symm;have f5_:=f3_.symm;clear f1_ f2_ f3_;subst f4_;subst f5_))
 refine norm_ (a':=?_) ?_ ?_;rotate_left
 ·simp only [putAll,Act.put,qSa,qSb,qSc];rfl
 refine one_ (i:=7) (N:=none) #[true,true,true,true,true,true,true,true] rfl rfl (one_of HT_.1 (by kernel_rfl)) (by decide) (fun K hK=>?_);have hs14:w12.cell? ⟨gb278,0,none⟩=some (.int .i64 0):=(blk_cell BK278.1 0).trans rfl;have hfs14:=blk_frozen BK278.1 0;have hns14_0:=NB272_278.1;have hns14_1:=NB273_278.1;have hns14_2:=NB274_278.1;have hms14_0:=NB278_272.1;have hms14_1:=NB278_273.1;have hms14_2:=NB278_274.1;have hs15:w12.cell? ⟨gb278,1,none⟩=some (.slice none 0 0):=(blk_cell BK278.1 1).trans rfl;have hfs15:=blk_frozen BK278.1 1;have hns15_0:=NB272_278.1;have hns15_1:=NB273_278.1;have hns15_2:=NB274_278.1;have hms15_0:=NB278_272.1;have hms15_1:=NB278_273.1;have hms15_2:=NB278_274.1;refine skip_ (w1:=?_) (by rfl) rfl ?_ ?_;rotate_left
 ·go_simp;rfl
 refine hK.out _ _ ⟨((cell_far (p:=⟨gb278,_,none⟩) NB272_278.1 _).trans (((cell_far (p:=⟨gb278,_,none⟩) NB272_278.1 _).trans (hHeld.1)))),((cell_far (p:=⟨gb278,_,none⟩) NB272_278.1 _).trans (((cell_far (p:=⟨gb278,_,none⟩) NB272_278.1 _).trans (hHeld.2))))⟩ (fun hHeld=>?_);clear hK K;refine done_ (done_of HT_.1 (by kernel_rfl)) ?_;try go_wp2
 try simp only [Act.put,qSa,qSc,qSb]
 go_loopg [8] k (fun kq v8 w'=>∃(x8_1:Int) (x279001_1:List Int) (u279001:Value),v8=.int .i64 x8_1∧Aside0 (spec_l01Plus.l0 kq a2 x8_1 a1_0 l1_1 a0_0 x279001_1=some (r1,r2))∧Aside0 (kq≤k)∧Aside0 (Kd.R (Kd.int .i64) 2 w' w.heap.size (fun _=>True) u279001 x279001_1)∧Aside0 (w'.heap[gb272]? =some (.cells #[.int .i64 a0_0,(.slice A0_1 l0_1.length c0_1)] 28 (0,0)))∧Aside0 (w'.heap[gb273]? =some (.cells #[.int .i64 a1_0,(.slice A1_1 l1_1.length c1_1)] 28 (0,0)))∧Aside0 (w'.heap[gb274]? =some (.cells #[.int .i64 0,(.slice none 0 0)] 28 (0,0)))∧Aside0 (w'.heap[gb278]? =some (.cells #[.int .i64 a0_0,u279001] 28 (0,0)))∧Aside0 (Below w.heap.size w w'))
 case atStart=>exact⟨(0),(t275),(.slice Ao13 t275.length co13),qB178,H',⟨Nat.le_refl _⟩,⟨by (with_reducible repeat(first|apply Kd.R_alloc|apply Kd.R_drewN|apply Kd.R_drew));exact Kd.R_mono (Kd.R_far (p:=⟨gb278,1,none⟩) (Kd.R_far (p:=⟨gb278,0,none⟩) (Kd.R_types HO277.1 BK278.1 (by decide)) (fun _ hk=>hk.2) (.int .i64 a0_0)) (fun _ hk=>hk.2) (.slice Ao13 t275.length co13)) (fun _ hk=>trivial)⟩,⟨by (with_reducible repeat(first|refine blk_drewN ?_ _|refine blk_drew ?_|refine blk_alloc ?_ _));refine blk_far ?_ NB272_278.1 _;(with_reducible repeat(first|refine blk_drewN ?_ _|refine blk_drew ?_|refine blk_alloc ?_ _));refine blk_far ?_ NB272_278.1 _;(with_reducible repeat(first|refine blk_drewN ?_ _|refine blk_drew ?_|refine blk_alloc ?_ _));exact BK272.1⟩,⟨by (with_reducible repeat(first|refine blk_drewN ?_ _|refine blk_drew ?_|refine blk_alloc ?_ _));refine blk_far ?_ NB273_278.1 _;(with_reducible repeat(first|refine blk_drewN ?_ _|refine blk_drew ?_|refine blk_alloc ?_ _));refine blk_far ?_ NB273_278.1 _;(with_reducible repeat(first|refine blk_drewN ?_ _|refine blk_drew ?_|refine blk_alloc ?_ _));exact BK273.1⟩,⟨by (with_reducible repeat(first|refine blk_drewN ?_ _|refine blk_drew ?_|refine blk_alloc ?_ _));refine blk_far ?_ NB274_278.1 _;(with_reducible repeat(first|refine blk_drewN ?_ _|refine blk_drew ?_|refine blk_alloc ?_ _));refine blk_far ?_ NB274_278.1 _;(with_reducible repeat(first|refine blk_drewN ?_ _|refine blk_drew ?_|refine blk_alloc ?_ _));exact BK274.1⟩,⟨by (with_reducible repeat(first|refine blk_drewN ?_ _|refine blk_drew ?_|refine blk_alloc ?_ _));refine blk_put (cs:=#[.int .i64 a0_0,.slice none 0 0]) ?_ 1 _ rfl;(with_reducible repeat(first|refine blk_drewN ?_ _|refine blk_drew ?_|refine blk_alloc ?_ _));refine blk_put (cs:=#[.int .i64 0,.slice none 0 0]) ?_ 0 _ rfl;(with_reducible repeat(first|refine blk_drewN ?_ _|refine blk_drew ?_|refine blk_alloc ?_ _));exact BK278.1⟩,⟨by repeat(first|(with_reducible first|exact HB.1|apply below_alloc|apply pw_below_drewN|apply below_drew1|refine below_set ?_ GE272.1|refine below_set ?_ GE273.1|refine below_set ?_ GE274.1|refine below_set ?_ GE278.1)|exact HB.1)⟩⟩
 case round=>
  clear H';try clear c1
  try clear p2
  try clear c7
  try clear c11
  obtain⟨x8_1,x279001_1,u279001,rfl,HA,HK1,HO_279001,BK272,BK273,BK274,BK278,HB⟩:=hrel;cases gk with
  |zero=>exact absurd HA.1 (by simp [spec_l01Plus.l0])
  |succ k1=>
   have H:=HA.1;clear HA;simp only [spec_l01Plus.l0] at H
   by_cases c16:x8_1<(l1_1.length:Int)
   ·rw [if_pos c16] at H;have c16b0:decide (x8_1<(l1_1.length:Int))=true:=decide_eq_true c16;clear c16
    by_cases c17:0≤x8_1
    ·rw [if_pos c17] at H;have c17b0:decide (0≤x8_1)=true:=decide_eq_true c17;clear c17
     by_cases c18:x8_1<(x279001_1.length:Int)
     ·rw [if_pos c18] at H;have c18b0:decide (x8_1<(x279001_1.length:Int))=true:=decide_eq_true c18;clear c18;obtain⟨y281,hy281⟩:∃y_:List Int,y_=(x279001_1.set (x8_1:Int).toNat (wrap64 ((rd x279001_1 x8_1)+(wrap64 (a2*(rd l1_1 x8_1)))))):=⟨_,rfl⟩
      replace H:(spec_l01Plus.l0 k1 a2 (wrap64 (x8_1+1)) a1_0 l1_1 a0_0 y281)=some (r1,r2):=by first|(rw [hy281];with_reducible exact H)|(have H2_:=(Option.bind_some _ _).symm.trans H;rw [hy281];with_reducible exact H2_)|(have H2_:=(Option.bind_some _ _).symm.trans H;with_reducible exact H2_)|with_reducible exact H|(rw [hy281];exact H)|exact H
      have Ny281:=qAm hy281;clear hy281;have H':=qAm H;clear H;have hnb20:=NB273_272.1;have hnc20:=NB272_273.1;have hnb21:=NB273_274.1;have hnc21:=NB274_273.1;have hnb22:=NB273_278.1;have hnc22:=NB278_273.1;have hcz23_0:wr.cell? ⟨gb273,0,none⟩=some (.int .i64 a1_0):=(blk_cell BK273.1 0).trans rfl;have hcz23_1:wr.cell? ⟨gb273,1,none⟩=some (.slice A1_1 l1_1.length c1_1):=(blk_cell BK273.1 1).trans rfl;have hfz23_0:=blk_frozen BK273.1 0;have hfz23_1:=blk_frozen BK273.1 1;try go_wp2
      have n0_:=qAm (Kd.R_drew HO_279001.1);have n1_:=qAm (blk_drew BK272.1);have n2_:=qAm (blk_drew BK273.1);have n3_:=qAm (blk_drew BK274.1);have n4_:=qAm (blk_drew BK278.1);have n5_:=qAm (below_drew1 HB.1);clear HO_279001 BK272 BK273 BK274 BK278 HB;have HO_279001:=n0_;have BK272:=n1_;have BK273:=n2_;have BK274:=n3_;have BK278:=n4_;have HB:=n5_;clear n0_ n1_ n2_ n3_ n4_ n5_;obtain⟨Ao25,co25,eo25⟩:=Kd.R_slice HO_279001.1
      (first|subst eo25|(injection eo25 with f1_ f2_ f3_;have f4_:=f1_.symm;have f5_:=f3_.symm;clear f1_ f2_ f3_;subst f4_;subst f5_))
      have p279:0≤(x8_1:Int):=of_decide_eq_true qB177;have q279:x8_1<(x279001_1.length:Int):=of_decide_eq_true qB177;obtain⟨ad279,e279,hx279_0⟩:=Kd.at_int (Kd.R_reads' HO_279001.1).2.2 x8_1 p279 q279;cases e279
      replace p279:=eq_true p279;replace q279:=eq_true q279;have p280:0≤(x8_1:Int):=of_decide_eq_true qB177;have q280:x8_1<(l1_1.length:Int):=of_decide_eq_true qB177;obtain⟨ad280,e280,hx280_0⟩:=Kd.at_int HR1_1.1 x8_1 p280 q280;have hw280_0:=hx280_0;cases e280
      replace hx280_0:=(HB.1.cell (World.block_lt_of_cell? w _ hx280_0)).trans hx280_0;replace p280:=eq_true p280;replace q280:=eq_true q280;have p19:0≤(x8_1:Int):=of_decide_eq_true qB177;have q19:(x8_1:Int)<((x279001_1.length:Int):Int):=of_decide_eq_true qB177;obtain⟨go19,co19,eo19,gb19,gl19,cl19,HG19⟩:=Kd.R_form HO_279001.1 (by omega)
      (first|cases eo19|(injection eo19 with ea_ en_ ec_;(first|subst ea_|(injection ea_ with ea_;subst ea_));subst ec_;clear en_))
      have GB19:=qAm gb19;have GG19:=qAm HG19;clear gb19 gl19 HG19
      (first|simp only [add_plain] at hx279_0|skip)
      obtain⟨hx19_0,hf19_0⟩:=Kd.R_celln 0 HO_279001.1 (x8_1:Int) p19 q19;replace p19:=eq_true p19;replace q19:=eq_true q19;have HP26:=Kd.R_putn HO_279001.1 (x8_1:Int) (wrap64 ((rd x279001_1 x8_1)+(wrap64 (a2*(rd l1_1 x8_1)))));rw [← Ny281.1] at HP26;have HQ26:=qAm HP26;clear HP26;refine start_ (n:=18) (S:=fun w'=>w'.cell? ⟨gb278,0,none⟩=some (.int .i64 a0_0)∧w'.cell? ⟨gb278,1,none⟩=some (.slice (some ⟨go19,0,none⟩) x279001_1.length co25)∧w'.cell? ⟨gb273,0,none⟩=some (.int .i64 a1_0)∧w'.cell? ⟨gb273,1,none⟩=some (.slice (some ad280) l1_1.length c1_1)∧w'.cell? ⟨go19,(x8_1).toNat,none⟩=some (.int .i64 (rd x279001_1 x8_1))∧w'.cell? (ad280.add (x8_1).toNat)=some (.int .i64 (rd l1_1 x8_1))) (ds:=[17]) #[false,false,false,false,false,false,false,false,false,false,false,false,false,false,false,false,false,false] (by kernel_rfl) rfl rfl ⟨(blk_cell BK278.1 0).trans rfl,(blk_cell BK278.1 1).trans rfl,(blk_cell BK273.1 0).trans rfl,(blk_cell BK273.1 1).trans rfl,hx279_0,((HB.1.cell (World.block_lt_of_cell? w _ hw280_0)).trans hw280_0)⟩ (fun hHeld=>?_);refine with_tabW spec_l01Plus.tab5 spec_l01Plus.bits5 (fun HT_ HW_=>?_);generalize wr.drew=w24 at HO_279001 BK272 BK273 BK274 BK278 HB GG19 HQ26 hf19_0 hx19_0 hx279_0 hx280_0 hHeld ⊢;refine pure_ (i:=0) (N:=some 22) (v:=?_) (a':=?_) #[true,false,false,false,false,false,false,false,false,false,false,false,false,false,false,false,false,false] rfl rfl (any_of HT_.1 (by kernel_rfl)) (fun _ _ _ h=>h) (Or.inl ⟨by rfl,?_⟩) ?_ ?_;rotate_left
      ·intro w';go_simp;with_reducible rfl
      rotate_left
      ·simp only [Act.put,qSa,qSb,qSc,i64_w,i32_w];rfl
      refine pure_ (i:=2) (N:=some 24) (v:=?_) (a':=?_) #[true,false,true,false,false,false,false,false,false,false,false,false,false,false,false,false,false,false] rfl rfl (any_of HT_.1 (by kernel_rfl)) (fun _ _ _ h=>h) (Or.inl ⟨by rfl,?_⟩) ?_ ?_;rotate_left
      ·intro w';go_simp;with_reducible rfl
      rotate_left
      ·simp only [Act.put,qSa,qSb,qSc,i64_w,i32_w];rfl
      refine pure_ (i:=3) (N:=some 25) (v:=?_) (a':=?_) #[true,false,true,true,false,false,false,false,false,false,false,false,false,false,false,false,false,false] rfl rfl (any_of HT_.1 (by kernel_rfl)) (fun _ _ _ h=>h) (Or.inl ⟨by rfl,?_⟩) ?_ ?_;rotate_left
      ·intro w';go_simp;with_reducible rfl
      rotate_left
      ·simp only [Act.put,qSa,qSb,qSc,i64_w,i32_w];rfl
      refine pure_ (i:=5) (N:=some 27) (v:=?_) (a':=?_) #[true,false,true,true,false,true,false,false,false,false,false,false,false,false,false,false,false,false] rfl rfl (any_of HT_.1 (by kernel_rfl)) (fun _ _ _ h=>h) (Or.inl ⟨by rfl,?_⟩) ?_ ?_;rotate_left
      ·intro w';go_simp;with_reducible rfl
      rotate_left
      ·simp only [Act.put,qSa,qSb,qSc,i64_w,i32_w];rfl
      refine pure_ (i:=8) (N:=some 30) (v:=?_) (a':=?_) #[true,false,true,true,false,true,false,false,true,false,false,false,false,false,false,false,false,false] rfl rfl (any_of HT_.1 (by kernel_rfl)) (fun _ _ _ h=>h) (Or.inl ⟨by rfl,?_⟩) ?_ ?_;rotate_left
      ·intro w';go_simp;with_reducible rfl
      rotate_left
      ·simp only [Act.put,qSa,qSb,qSc,i64_w,i32_w];rfl
      refine pure_ (i:=9) (N:=some 31) (v:=?_) (a':=?_) #[true,false,true,true,false,true,false,false,true,true,false,false,false,false,false,false,false,false] rfl rfl (any_of HT_.1 (by kernel_rfl)) (fun _ _ _ h=>h) (Or.inl ⟨by rfl,?_⟩) ?_ ?_;rotate_left
      ·intro w';go_simp;with_reducible rfl
      rotate_left
      ·simp only [Act.put,qSa,qSb,qSc,i64_w,i32_w];rfl
      refine pure_ (i:=11) (N:=some 33) (v:=?_) (a':=?_) #[true,false,true,true,false,true,false,false,true,true,false,true,false,false,false,false,false,false] rfl rfl (any_of HT_.1 (by kernel_rfl)) (fun _ _ _ h=>h) (Or.inl ⟨by rfl,?_⟩) ?_ ?_;rotate_left
      ·intro w';go_simp;with_reducible rfl
      rotate_left
      ·simp only [Act.put,qSa,qSb,qSc,i64_w,i32_w];rfl
      refine take_ (i:=1) (N:=some 23) (v:=?_) (a':=?_) #[true,true,true,true,false,true,false,false,true,true,false,true,false,false,false,false,false,false] rfl rfl (take_ofW HT_.1 HW_.1 (by kernel_rfl)) (fun _ _ _ h=>h) (Or.inl ⟨by rfl,?_⟩) hHeld ?_ ?_;rotate_left
      ·rintro w' ⟨s0,s1,s2,s3,s4,s5⟩;go_simp;with_reducible rfl
      rotate_left
      ·simp only [Act.put,qSa,qSb,qSc,i64_w,i32_w];rfl
      refine take_ (i:=4) (N:=some 26) (v:=?_) (a':=?_) #[true,true,true,true,true,true,false,false,true,true,false,true,false,false,false,false,false,false] rfl rfl (take_ofW HT_.1 HW_.1 (by kernel_rfl)) (fun _ _ _ h=>h) (Or.inl ⟨by rfl,?_⟩) hHeld ?_ ?_;rotate_left
      ·rintro w' ⟨s0,s1,s2,s3,s4,s5⟩;go_simp;with_reducible rfl
      rotate_left
      ·simp only [Act.put,qSa,qSb,qSc,i64_w,i32_w];rfl
      refine pure_ (i:=6) (N:=some 28) (v:=?_) (a':=?_) #[true,true,true,true,true,true,true,false,true,true,false,true,false,false,false,false,false,false] rfl rfl (any_of HT_.1 (by kernel_rfl)) (fun _ _ _ h=>h) (Or.inl ⟨by rfl,?_⟩) ?_ ?_;rotate_left
      ·intro w';go_simp;with_reducible rfl
      rotate_left
      ·simp only [Act.put,qSa,qSb,qSc,i64_w,i32_w];rfl
      refine take_ (i:=7) (N:=some 29) (v:=?_) (a':=?_) #[true,true,true,true,true,true,true,true,true,true,false,true,false,false,false,false,false,false] rfl rfl (take_ofW HT_.1 HW_.1 (by kernel_rfl)) (fun _ _ _ h=>h) (Or.inl ⟨by rfl,?_⟩) hHeld ?_ ?_;rotate_left
      ·rintro w' ⟨s0,s1,s2,s3,s4,s5⟩;go_simp;with_reducible rfl
      rotate_left
      ·simp only [Act.put,qSa,qSb,qSc,i64_w,i32_w];rfl
      refine take_ (i:=10) (N:=some 32) (v:=?_) (a':=?_) #[true,true,true,true,true,true,true,true,true,true,true,true,false,false,false,false,false,false] rfl rfl (take_ofW HT_.1 HW_.1 (by kernel_rfl)) (fun _ _ _ h=>h) (Or.inl ⟨by rfl,?_⟩) hHeld ?_ ?_;rotate_left
      ·rintro w' ⟨s0,s1,s2,s3,s4,s5⟩;go_simp;with_reducible rfl
      rotate_left
      ·simp only [Act.put,qSa,qSb,qSc,i64_w,i32_w];rfl
      refine pure_ (i:=12) (N:=some 34) (v:=?_) (a':=?_) #[true,true,true,true,true,true,true,true,true,true,true,true,true,false,false,false,false,false] rfl rfl (any_of HT_.1 (by kernel_rfl)) (fun _ _ _ h=>h) (Or.inl ⟨by rfl,?_⟩) ?_ ?_;rotate_left
      ·intro w';go_simp;with_reducible rfl
      rotate_left
      ·simp only [Act.put,qSa,qSb,qSc,i64_w,i32_w];rfl
      refine take_ (i:=13) (N:=some 35) (v:=?_) (a':=?_) #[true,true,true,true,true,true,true,true,true,true,true,true,true,true,false,false,false,false] rfl rfl (take_ofW HT_.1 HW_.1 (by kernel_rfl)) (fun _ _ _ h=>h) (Or.inl ⟨by rfl,?_⟩) hHeld ?_ ?_;rotate_left
      ·rintro w' ⟨s0,s1,s2,s3,s4,s5⟩;go_simp;with_reducible rfl
      rotate_left
      ·simp only [Act.put,qSa,qSb,qSc,i64_w,i32_w];rfl
      refine pure_ (i:=14) (N:=some 36) (v:=?_) (a':=?_) #[true,true,true,true,true,true,true,true,true,true,true,true,true,true,true,false,false,false] rfl rfl (any_of HT_.1 (by kernel_rfl)) (fun _ _ _ h=>h) (Or.inl ⟨by rfl,?_⟩) ?_ ?_;rotate_left
      ·intro w';go_simp;with_reducible rfl
      rotate_left
      ·simp only [Act.put,qSa,qSb,qSc,i64_w,i32_w];rfl
      refine pure_ (i:=15) (N:=some 37) (v:=?_) (a':=?_) #[true,true,true,true,true,true,true,true,true,true,true,true,true,true,true,true,false,false] rfl rfl (any_of HT_.1 (by kernel_rfl)) (fun _ _ _ h=>h) (Or.inl ⟨by rfl,?_⟩) ?_ ?_;rotate_left
      ·intro w';go_simp;with_reducible rfl
      rotate_left
      ·simp only [Act.put,qSa,qSb,qSc,i64_w,i32_w];rfl
      refine pure_ (i:=16) (N:=some 38) (v:=?_) (a':=?_) #[true,true,true,true,true,true,true,true,true,true,true,true,true,true,true,true,true,false] rfl rfl (any_of HT_.1 (by kernel_rfl)) (fun _ _ _ h=>h) (Or.inl ⟨by rfl,?_⟩) ?_ ?_;rotate_left
      ·intro w';go_simp;with_reducible rfl
      rotate_left
      ·simp only [Act.put,qSa,qSb,qSc,i64_w,i32_w];rfl
      refine last_ (i:=17) (N:=none) #[true,true,true,true,true,true,true,true,true,true,true,true,true,true,true,true,true,true] rfl rfl (one_of HT_.1 (by kernel_rfl)) (by decide) (fun K hK=>?_);refine skip_ (w1:=?_) (by rfl) rfl ?_ ?_;rotate_left
      ·go_simp;rfl
      refine hK.out _ _ ?_;clear hK K;refine done_ (done_of HT_.1 (by kernel_rfl)) ?_;try go_wp2
      (first|go_roundg k1|((try simp only [add_plain] at *);go_roundg k1))
      case measure=>have:=HK1.1;omega
      case rel=>exact⟨(wrap64 (x8_1+1)),(y281),(.slice (some ⟨go19,0,none⟩) x279001_1.length co25),qB178,H',⟨by have:=HK1.1;omega⟩,⟨by (with_reducible repeat(first|apply Kd.R_alloc|apply Kd.R_drewN|apply Kd.R_drew));exact HQ26.1⟩,⟨by (with_reducible repeat(first|refine blk_drewN ?_ _|refine blk_drew ?_|refine blk_alloc ?_ _));refine blk_far ?_ (by have h_:=Kd.R_ne HO_279001.1 BK272.1 (by decide);intro e_;exact h_ (by rw [e_];rfl)) _;(with_reducible repeat(first|refine blk_drewN ?_ _|refine blk_drew ?_|refine blk_alloc ?_ _));exact BK272.1⟩,⟨by (with_reducible repeat(first|refine blk_drewN ?_ _|refine blk_drew ?_|refine blk_alloc ?_ _));refine blk_far ?_ (by have h_:=Kd.R_ne HO_279001.1 BK273.1 (by decide);intro e_;exact h_ (by rw [e_];rfl)) _;(with_reducible repeat(first|refine blk_drewN ?_ _|refine blk_drew ?_|refine blk_alloc ?_ _));exact BK273.1⟩,⟨by (with_reducible repeat(first|refine blk_drewN ?_ _|refine blk_drew ?_|refine blk_alloc ?_ _));refine blk_far ?_ (by have h_:=Kd.R_ne HO_279001.1 BK274.1 (by decide);intro e_;exact h_ (by rw [e_];rfl)) _;(with_reducible repeat(first|refine blk_drewN ?_ _|refine blk_drew ?_|refine blk_alloc ?_ _));exact BK274.1⟩,⟨by (with_reducible repeat(first|refine blk_drewN ?_ _|refine blk_drew ?_|refine blk_alloc ?_ _));refine blk_far ?_ (by have h_:=Kd.R_ne HO_279001.1 BK278.1 (by decide);intro e_;exact h_ (by rw [e_];rfl)) _;(with_reducible repeat(first|refine blk_drewN ?_ _|refine blk_drew ?_|refine blk_alloc ?_ _));exact BK278.1⟩,⟨by repeat(first|(with_reducible first|exact HB.1|apply below_alloc|apply pw_below_drewN|apply below_drew1|refine below_set ?_ GB19.1|refine below_set ?_ GE272.1|refine below_set ?_ GE273.1|refine below_set ?_ GE274.1|refine below_set ?_ GE278.1)|exact HB.1)⟩⟩
     ·rw [if_neg c18] at H;exact absurd H (by simp)
    ·rw [if_neg c17] at H;exact absurd H (by simp)
   ·rw [if_neg c16] at H;have c16b0:decide (x8_1<(l1_1.length:Int))=false:=decide_eq_false c16;clear c16;simp only [Option.some.injEq,Prod.mk.injEq] at H;obtain⟨rfl,rfl⟩:=H;have hnb27:=NB273_272.1;have hnc27:=NB272_273.1;have hnb28:=NB273_274.1;have hnc28:=NB274_273.1;have hnb29:=NB273_278.1;have hnc29:=NB278_273.1;have hcz30_0:wr.cell? ⟨gb273,0,none⟩=some (.int .i64 a1_0):=(blk_cell BK273.1 0).trans rfl;have hcz30_1:wr.cell? ⟨gb273,1,none⟩=some (.slice A1_1 l1_1.length c1_1):=(blk_cell BK273.1 1).trans rfl;have hfz30_0:=blk_frozen BK273.1 0;have hfz30_1:=blk_frozen BK273.1 1;have hnb31:=NB278_272.1;have hnc31:=NB272_278.1;have hnb32:=NB278_274.1;have hnc32:=NB274_278.1;have hcz33_0:wr.cell? ⟨gb278,0,none⟩=some (.int .i64 a0_0):=(blk_cell BK278.1 0).trans rfl;have hcz33_1:wr.cell? ⟨gb278,1,none⟩=some (u279001):=(blk_cell BK278.1 1).trans rfl;have hfz33_0:=blk_frozen BK278.1 0;have hfz33_1:=blk_frozen BK278.1 1;have hnb34:=NB274_272.1;have hnc34:=NB272_274.1;have hcz35_0:wr.cell? ⟨gb274,0,none⟩=some (.int .i64 0):=(blk_cell BK274.1 0).trans rfl;have hcz35_1:wr.cell? ⟨gb274,1,none⟩=some (.slice none 0 0):=(blk_cell BK274.1 1).trans rfl;have hfz35_0:=blk_frozen BK274.1 0;have hfz35_1:=blk_frozen BK274.1 1;obtain⟨Ao36,co36,eo36⟩:=Kd.R_slice HO_279001.1;subst eo36;go_wp2;refine bodyPost_ret (results_cell_row rfl _ _ gb274 28 #[.int .i64 a0_0,.slice Ao36 x279001_1.length co36] (0,0) _ rfl (by (with_reducible repeat(first|refine blk_drewN ?_ _|refine blk_drew ?_|refine blk_alloc ?_ _));refine blk_put (cs:=#[.int .i64 a0_0,.slice none 0 0]) ?_ 1 _ rfl;(with_reducible repeat(first|refine blk_drewN ?_ _|refine blk_drew ?_|refine blk_alloc ?_ _));refine blk_put (cs:=#[.int .i64 0,.slice none 0 0]) ?_ 0 _ rfl;(with_reducible repeat(first|refine blk_drewN ?_ _|refine blk_drew ?_|refine blk_alloc ?_ _));exact BK274.1) Try.underlying28 rfl (by kernel_rfl)) rfl ?_;exact⟨_,by first|rfl|(simp [errW_none,errW_some] <;> rfl)|(simp [*,errW_none,errW_some] <;> rfl),by (with_reducible repeat(first|apply Kd.R_alloc|apply Kd.R_drewN|apply Kd.R_drew));exact Kd.R_mono (Kd.R_far (p:=⟨gb274,1,none⟩) (Kd.R_far (p:=⟨gb274,0,none⟩) (Kd.R_types HO_279001.1 BK274.1 (by decide)) (fun _ hk=>hk.2) (.int .i64 a0_0)) (fun _ hk=>hk.2) (.slice Ao36 x279001_1.length co36)) (fun _ hk=>trivial),by repeat(first|(with_reducible first|exact HB.1|apply below_alloc|apply pw_below_drewN|apply below_drew1|refine below_set ?_ GE272.1|refine below_set ?_ GE273.1|refine below_set ?_ GE274.1|refine below_set ?_ GE278.1)|exact HB.1)⟩

end Go.Proofs.Ytefhabkikaadiaa.PFnExactOrthogonalSum
