/- The functions that the law reaches, as plain functions, each with the proof that the program comes to it; no condition. Written by a program of this session (wip/mp.py) over the printing of the kit; what is marked HAND is told by hand. -/
import Derived.Test.YthljmbobccaalaaPFnExactSizeOfx0
import Derived.Test.YthljmbobccaalaaPFnExactSizeOfx5
import Derived.Test.YthljmbobccaalaaPFnExactSizeOfx6
import Derived.Test.YthljmbobccaalaaPFnExactSizeOfx7
namespace Go.Proofs.Ythljmbobccaalaa.PFnExactSizeOf
open Go.RowKit Go.Proofs.YthljmbobccaalaaW.PrintWords Go.Proofs.YthljmbobccaalaaW.PrintLast Go.Proofs.YthljmbobccaalaaW.PrintMore
attribute [local go_sem] max2_int min2_int max_two min_two max_three min_three max_four min_four   -- for this text's walks alone
set_option linter.unusedVariables false
set_option linter.unusedSimpArgs false

/-! ### spec_SizeOf: function 20 -/
def spec_SizeOf.f (k:Nat) (a0_0:Int) (l0_1:List Int):Option (Int×Int):=(spec_l01Is.f k a0_0 l0_1).bind fun t276=>(if t276=true then ((spec_l01Bar.f k a0_0 l0_1).bind fun bt277=>((spec_l01Times.f k a0_0 l0_1 bt277.1 bt277.2).bind fun bt281=>(if bt281.2.2=true then ((spec_l02Trace.f k bt281.1 bt281.2.1).bind fun t287=>(some (t287,0))) else (some (0,3))))) else (some (0,1)))
theorem spec_SizeOf.mono:∀a0 a1 k,LeO (spec_SizeOf.f k a0 a1) (spec_SizeOf.f (k+1) a0 a1):=by
 intro a0 a1 k;unfold spec_SizeOf.f;repeat' first
   |(with_reducible exact spec_l01Bar.mono _ _ _)
   |(with_reducible exact spec_l01Is.mono _ _ _)
   |(with_reducible exact spec_l01Times.mono _ _ _ _ _)
   |(with_reducible exact spec_l02Trace.mono _ _ _)
   |(with_reducible exact LeO.refl _)
   |(with_reducible exact LeO.none _)
   |(with_reducible refine LeO.ite ?_ ?_)
   |(with_reducible refine LeO.bind ?_ (fun _=>?_))
   |exact spec_l01Bar.mono _ _ _
   |exact spec_l01Is.mono _ _ _
   |exact spec_l01Times.mono _ _ _ _ _
   |exact spec_l02Trace.mono _ _ _
   |exact LeO.none _
   |refine LeO.ite ?_ ?_
   |refine LeO.bind ?_ (fun _=>?_)
def spec_SizeOf.T3:Bool×List (List Nat×List Nat):=(true,[([],[]),([],[]),([1],[1]),([0,2,2],[0,2]),([3],[3]),([4],[4]),([4],[4]),([],[]),([7,5,3,0,1,2,3,4,5,7],[5,7]),([6,8,0,1,2,3,4,5,6,7,8],[6])])
def spec_SizeOf.B3:List Nat:=[0,0,2,7,15,31,31,0,191,511]
theorem spec_SizeOf.tab3:rtab .any (opsOf Try.f20 3)=spec_SizeOf.T3:=by kernel_rfl
theorem spec_SizeOf.bits3:waitsOk spec_SizeOf.T3.2 spec_SizeOf.B3=true:=by kernel_rfl
set_option maxHeartbeats 8000000 in
set_option maxRecDepth 100000 in
theorem spec_SizeOf.calls (k:Nat) (a0_0:Int) (A0_1:Option Addr) (c0_1:Nat) (l0_1:List Int) (r1:Int) (r2:Int) (w:World) (hr0_1:Kd.C (Kd.int .i64) w A0_1 l0_1.length l0_1) (hc0_1:l0_1.length≤c0_1) (h:spec_SizeOf.f k a0_0 l0_1=some (r1,r2)):
  Calls Try.prog 20 #[.agg #[.int .i64 a0_0,.slice A0_1 l0_1.length c0_1]] w fun e w'=>e=.returned (.tuple #[.int .i64 r1,.int .i64 r2])∧Below w.heap.size w w':=by
 have hu26:=Try.underlying26;have HR0_1:=qAm hr0_1;have HC0_1:=qAm hc0_1;clear hr0_1 hc0_1;have HB:=qAm (Below.refl w.heap.size w);have H:((spec_l01Is.f k a0_0 l0_1).bind fun t276=>(if t276=true then ((spec_l01Bar.f k a0_0 l0_1).bind fun bt277=>((spec_l01Times.f k a0_0 l0_1 bt277.1 bt277.2).bind fun bt281=>(if bt281.2.2=true then ((spec_l02Trace.f k bt281.1 bt281.2.1).bind fun t287=>(some (t287,0))) else (some (0,3))))) else (some (0,1))))=some (r1,r2):=h;clear h;replace H:=qOb H;obtain⟨t276,A20,H⟩:=H;replace H:(if t276=true then ((spec_l01Bar.f k a0_0 l0_1).bind fun bt277=>((spec_l01Times.f k a0_0 l0_1 bt277.1 bt277.2).bind fun bt281=>(if bt281.2.2=true then ((spec_l02Trace.f k bt281.1 bt281.2.1).bind fun t287=>(some (t287,0))) else (some (0,3))))) else (some (0,1)))=some (r1,r2):=H;have A2:=qAm A20;clear A20
 by_cases c3:t276=true
 ·subst c3;have H1:((spec_l01Bar.f k a0_0 l0_1).bind fun bt277=>((spec_l01Times.f k a0_0 l0_1 bt277.1 bt277.2).bind fun bt281=>(if bt281.2.2=true then ((spec_l02Trace.f k bt281.1 bt281.2.1).bind fun t287=>(some (t287,0))) else (some (0,3)))))=some (r1,r2):=by rw [if_pos rfl] at H;exact H
  clear H;have H:=H1;clear H1;replace H:=qOb H;obtain⟨⟨t277,t278⟩,A40,H⟩:=H;replace H:((spec_l01Times.f k a0_0 l0_1 t277 t278).bind fun bt281=>(if bt281.2.2=true then ((spec_l02Trace.f k bt281.1 bt281.2.1).bind fun t287=>(some (t287,0))) else (some (0,3))))=some (r1,r2):=H;have A4:=qAm A40;clear A40;replace H:=qOb H;obtain⟨⟨t281,t282,t285⟩,A50,H⟩:=H;replace H:(if t285=true then ((spec_l02Trace.f k t281 t282).bind fun t287=>(some (t287,0))) else (some (0,3)))=some (r1,r2):=H;have A5:=qAm A50;clear A50
  by_cases c6:t285=true
  ·subst c6;have H1:((spec_l02Trace.f k t281 t282).bind fun t287=>(some (t287,0)))=some (r1,r2):=by rw [if_pos rfl] at H;exact H
   clear H;have H:=H1;clear H1;replace H:=qOb H;obtain⟨t287,A70,H⟩:=H;replace H:(some (t287,0))=some (r1,r2):=H;have A7:=qAm A70;clear A70;simp only [Option.some.injEq,Prod.mk.injEq] at H;obtain⟨rfl,rfl⟩:=H;go_enter Try.func20,Try.ntmps20;try go_wp2_with (first|((with_reducible refine gate_dst (N:=1) rfl ?_);refine box_event ?hg (N:=1) ?hd (cs:=#[.int .i64 a0_0,.slice A0_1 l0_1.length c0_1]) (t:=26) ?hr ?_;(case hd=>rfl);(case hg=>rfl);(case hr=>first|(go_simp;done)|(go_simp;rfl));intro gb275 hg w8 hbox hb;have n0_:=qAm (below_step qB53 hb);have n1_:=qAm (hbox);have n2_:=qAm ((by rw [hg];exact(below_size qB53):w.heap.size≤gb275));have n3_:=qAm ((by rw [hg];exact(below_size qB53):w.heap.size≤gb275));clear HB;have HB:=n0_;have BK275:=n1_;have GW275:=n2_;have GE275:=n3_;clear n0_ n1_ n2_ n3_;clear hb hbox hg;have hcz9_0:w8.cell? ⟨gb275,0,none⟩=some (.int .i64 a0_0):=(blk_cell BK275.1 0).trans rfl;have hcz9_1:w8.cell? ⟨gb275,1,none⟩=some (.slice A0_1 l0_1.length c0_1):=(blk_cell BK275.1 1).trans rfl;have hfz9_0:=blk_frozen BK275.1 0;have hfz9_1:=blk_frozen BK275.1 1)|((with_reducible refine gate_callee (f:=43) rfl ?_);refine goesL_ (some 7) rfl rfl Try.func43 (by kernel_rfl) rfl #[.agg #[.int .i64 a0_0,.slice A0_1 l0_1.length c0_1]] rfl qB50 ?_;(with_reducible refine(spec_l01Is.calls k a0_0 _ _ l0_1 true _ ?side1 ?side2 A2.1).mono ?_);(case side1=>repeat(first|exact(Kd.C_below HR0_1.1 HB.1)|(with_reducible refine Kd.C_alloc ?_ _)|(with_reducible refine Kd.C_drewN ?_ _)|(with_reducible refine Kd.C_drew ?_)));(case side2=>exact HC0_1.1);rintro e w10 ⟨rfl,hb⟩;refine⟨_,rfl,?_⟩;have n0_:=qAm (blk_below (g:=gb275) (o:=.cells #[.int .i64 a0_0,.slice A0_1 l0_1.length c0_1] 26 (0,0)) qB73 hb);have n1_:=qAm (below_step qB37 hb);clear BK275;clear HB;have BK275:=n0_;have HB:=n1_;clear n0_ n1_;(try clear hb);(try clear hb2);(try clear hk);(try clear hi)))
   have n0_:=qAm (blk_drew BK275.1);have n1_:=qAm (below_drew1 HB.1);clear BK275 HB;have BK275:=n0_;have HB:=n1_;clear n0_ n1_;refine start_ (n:=10) (S:=fun w'=>w'.cell? ⟨gb275,0,none⟩=some (.int .i64 a0_0)∧w'.cell? ⟨gb275,1,none⟩=some (.slice A0_1 l0_1.length c0_1)) (ds:=[]) #[false,false,false,false,false,false,false,false,false,false] (by kernel_rfl) rfl rfl ⟨(blk_cell BK275.1 0).trans rfl,(blk_cell BK275.1 1).trans rfl⟩ (fun hHeld=>?_);refine with_tabW spec_SizeOf.tab3 spec_SizeOf.bits3 (fun HT_ HW_=>?_);generalize w10.drew=w11 at BK275 HB hHeld ⊢;refine take_ (i:=0) (N:=some 10) (v:=?_) (a':=?_) #[true,false,false,false,false,false,false,false,false,false] rfl rfl (take_ofW HT_.1 HW_.1 (by kernel_rfl)) (fun _ _ _ h=>h) (Or.inl ⟨by rfl,?_⟩) hHeld ?_ ?_;rotate_left
   ·rintro w' ⟨s0,s1⟩;go_simp;with_reducible rfl
   rotate_left
   ·simp only [Act.put,qSa,qSb,qSc,i64_w,i32_w];rfl
   refine take_ (i:=1) (N:=some 11) (v:=?_) (a':=?_) #[true,true,false,false,false,false,false,false,false,false] rfl rfl (take_ofW HT_.1 HW_.1 (by kernel_rfl)) (fun _ _ _ h=>h) (Or.inl ⟨by rfl,?_⟩) hHeld ?_ ?_;rotate_left
   ·rintro w' ⟨s0,s1⟩;go_simp;with_reducible rfl
   rotate_left
   ·simp only [Act.put,qSa,qSb,qSc,i64_w,i32_w];rfl
   refine join_ (σ:=Value×Value×Nat) 2 #[true,true,true,true,true,true,true,true,false,false] (fun s_=>[(12,.agg #[.int .i64 t277,s_.1]),(13,.tuple #[.agg #[.int .i64 t281,s_.2.1],.bool true]),(4,.pointer (some ⟨s_.2.2,0,none⟩)),(9,.tuple #[.agg #[.int .i64 t281,s_.2.1],.bool true]),(14,.agg #[.int .i64 t281,s_.2.1]),(15,.bool true)]) (fun s_ w'=>(w'.cell? ⟨gb275,0,none⟩=some (.int .i64 a0_0)∧w'.cell? ⟨gb275,1,none⟩=some (.slice A0_1 l0_1.length c0_1))∧(Kd.R (Kd.int .i64) 2 w' w.heap.size (fun k_=>some k_≠(s_.2.1:Value).ownBlock) s_.1 t278)∧(Kd.R (Kd.int .i64) 2 w' w.heap.size (fun k_=>some k_≠(s_.1:Value).ownBlock) s_.2.1 t282)∧(w'.heap[gb275]? =some (.cells #[.int .i64 a0_0,.slice A0_1 l0_1.length c0_1] 26 (0,0)))∧(w'.heap[s_.2.2]? =some (.cells #[.int .i64 0,.slice none 0 0] 26 (0,0)))∧(w.heap.size≤s_.2.2)∧(w.heap.size≤s_.2.2)∧(gb275≠s_.2.2)∧(s_.2.2≠gb275)∧(Below w.heap.size w w')) ?_ ?_;rotate_left
   ·intro hCont;refine two_ (i:=2) (j:=7) (Ni:=some 12) (Nj:=some 4) #[true,true,true,false,false,false,false,false,false,false] #[true,true,false,false,false,false,false,true,false,false] rfl rfl rfl rfl (two_of HT_.1 (by kernel_rfl)) (by decide) (by decide) (fun K hK=>?_) (fun K hK=>?_)
    ·skip;refine goes_ Try.func49 (by kernel_rfl) rfl #[.agg #[.int .i64 a0_0,.slice A0_1 l0_1.length c0_1]] (by rfl) rfl rfl qB50 ?_;with_reducible refine(spec_l01Bar.calls k a0_0 _ _ l0_1 t277 t278 _ ?side1 ?side2 A4.1).mono ?_
     (case side1=>repeat(first|exact(Kd.C_below HR0_1.1 HB.1)|(with_reducible refine Kd.C_alloc ?_ _)|(with_reducible refine Kd.C_drewN ?_ _)|(with_reducible refine Kd.C_drew ?_)))
     (case side2=>exact HC0_1.1)
     rintro e w12 ⟨v279,rfl,ho0,hb⟩;refine⟨_,rfl,?_⟩;have n0_:=qAm (Kd.R_lower ho0 (below_size qB37));have n1_:=qAm (blk_below (g:=gb275) (o:=.cells #[.int .i64 a0_0,.slice A0_1 l0_1.length c0_1] 26 (0,0)) qB73 hb);have n2_:=qAm (below_step qB37 hb);clear BK275 HB;have HO280:=n0_;have BK275:=n1_;have HB:=n2_;clear n0_ n1_ n2_
     (try clear hb)
     (try clear hb2)
     (try clear hk)
     (try clear hi)
     (try clear ho0)
     obtain⟨Ao13,co13,eo13⟩:=Kd.R_slice HO280.1
     (first|subst eo13|(injection eo13 with f1_ f2_ f3_;have f4_:=f1_.symm;have f5_:=f3_.symm;clear f1_ f2_ f3_;subst f4_;subst f5_))
     refine hK.out _ _ ⟨(blk_cell BK275.1 0).trans rfl,(blk_cell BK275.1 1).trans rfl⟩ (fun hHeld=>?_);clear hK K;refine norm_ (a':=?_) ?_ ?_;rotate_left
     ·show Act.put _ (some 12) _=_
      simp only [Act.put,qSa,qSb,qSc,i64_w,i32_w];rfl
     refine two_ (i:=3) (j:=7) (Ni:=some 13) (Nj:=some 4) #[true,true,true,true,false,false,false,false,false,false] #[true,true,true,false,false,false,false,true,false,false] rfl rfl rfl rfl (two_of HT_.1 (by kernel_rfl)) (by decide) (by decide) (fun K hK=>?_) (fun K hK=>?_)
     ·skip;refine goes_ Try.func37 (by kernel_rfl) rfl #[.agg #[.int .i64 a0_0,.slice A0_1 l0_1.length c0_1],.agg #[.int .i64 t277,.slice Ao13 t278.length co13]] (by rfl) rfl rfl qB50 ?_;with_reducible refine(spec_l01Times.calls k a0_0 _ _ l0_1 t277 _ _ t278 t281 t282 true _ ?side1 ?side2 ?side3 ?side4 A5.1).mono ?_
      (case side1=>repeat(first|exact(Kd.C_below HR0_1.1 HB.1)|(with_reducible refine Kd.C_alloc ?_ _)|(with_reducible refine Kd.C_drewN ?_ _)|(with_reducible refine Kd.C_drew ?_)))
      (case side2=>exact HC0_1.1)
      (case side3=>repeat(first|exact(Kd.R_reads' HO280.1).2.2|(with_reducible refine Kd.C_alloc ?_ _)|(with_reducible refine Kd.C_drewN ?_ _)|(with_reducible refine Kd.C_drew ?_)))
      (case side4=>exact(Kd.R_reads' HO280.1).2.1)
      rintro e w14 ⟨v283,rfl,ho0,hb⟩;refine⟨_,rfl,?_⟩;have n0_:=qAm (Kd.R_elder' qB89 (Kd.R_base ho0) hb);have n1_:=qAm (Kd.R_lower (Kd.R_new' ho0 (Kd.R_lt qB89)) (below_size qB37));have n2_:=qAm (blk_below (g:=gb275) (o:=.cells #[.int .i64 a0_0,.slice A0_1 l0_1.length c0_1] 26 (0,0)) qB73 hb);have n3_:=qAm (below_step qB37 hb);clear HO280 BK275 HB;have HO280:=n0_;have HO284:=n1_;have BK275:=n2_;have HB:=n3_;clear n0_ n1_ n2_ n3_
      (try clear hb)
      (try clear hb2)
      (try clear hk)
      (try clear hi)
      (try clear ho0)
      refine hK.out _ _ ⟨(blk_cell BK275.1 0).trans rfl,(blk_cell BK275.1 1).trans rfl⟩ (fun hHeld=>?_);clear hK K;refine norm_ (a':=?_) ?_ ?_;rotate_left
      ·show Act.put _ (some 13) _=_
       simp only [Act.put,qSa,qSb,qSc,i64_w,i32_w];rfl
      refine pure_ (i:=4) (N:=some 9) (v:=?_) (a':=?_) #[true,true,true,true,true,false,false,false,false,false] rfl rfl (any_of HT_.1 (by kernel_rfl)) (fun _ _ _ h=>h) (Or.inl ⟨by rfl,?_⟩) ?_ ?_;rotate_left
      ·intro w';go_simp;with_reducible rfl
      rotate_left
      ·simp only [Act.put,qSa,qSb,qSc,i64_w,i32_w];rfl
      refine pure_ (i:=5) (N:=some 14) (v:=?_) (a':=?_) #[true,true,true,true,true,true,false,false,false,false] rfl rfl (any_of HT_.1 (by kernel_rfl)) (fun _ _ _ h=>h) (Or.inl ⟨by rfl,?_⟩) ?_ ?_;rotate_left
      ·intro w';go_simp;with_reducible rfl
      rotate_left
      ·simp only [Act.put,qSa,qSb,qSc,i64_w,i32_w];rfl
      refine pure_ (i:=6) (N:=some 15) (v:=?_) (a':=?_) #[true,true,true,true,true,true,true,false,false,false] rfl rfl (any_of HT_.1 (by kernel_rfl)) (fun _ _ _ h=>h) (Or.inl ⟨by rfl,?_⟩) ?_ ?_;rotate_left
      ·intro w';go_simp;with_reducible rfl
      rotate_left
      ·simp only [Act.put,qSa,qSb,qSc,i64_w,i32_w];rfl
      refine one_ (i:=7) (N:=some 4) #[true,true,true,true,true,true,true,true,false,false] rfl rfl (one_of HT_.1 (by kernel_rfl)) (by decide) (fun K hK=>?_);refine box_step ?hg (N:=4) ?hd (cs:=#[.int .i64 0,.slice none 0 0]) (t:=26) ?hr ?_;(case hd=>rfl);(case hg=>rfl);(case hr=>first|(go_simp;done)|(go_simp;rfl));intro gb286 hg w15 hbox hb;have n0_:=qAm (Kd.R_below qB89 hb);have n1_:=qAm (Kd.R_below qB90 hb);have n2_:=qAm (blk_below (g:=gb275) (o:=.cells #[.int .i64 a0_0,.slice A0_1 l0_1.length c0_1] 26 (0,0)) qB73 hb);have n3_:=qAm (below_step qB37 hb);have n4_:=qAm (hbox);have n5_:=qAm ((by rw [hg];exact(below_size qB37):w.heap.size≤gb286));have n6_:=qAm ((by rw [hg];exact(below_size qB37):w.heap.size≤gb286));have n7_:=qAm ((by rw [hg];exact Nat.ne_of_lt (blk_lt (g:=gb275) (o:=.cells #[.int .i64 a0_0,.slice A0_1 l0_1.length c0_1] 26 (0,0)) qB73):gb275≠gb286));have n8_:=qAm ((by rw [hg];exact Nat.ne_of_gt (blk_lt (g:=gb275) (o:=.cells #[.int .i64 a0_0,.slice A0_1 l0_1.length c0_1] 26 (0,0)) qB73):gb286≠gb275));clear HO280 HO284 BK275 HB;have HO280:=n0_;have HO284:=n1_;have BK275:=n2_;have HB:=n3_;have BK286:=n4_;have GW286:=n5_;have GE286:=n6_;have NB275_286:=n7_;have NB286_275:=n8_;clear n0_ n1_ n2_ n3_ n4_ n5_ n6_ n7_ n8_ hb hbox hg;refine hK.out _ _ ⟨(blk_cell BK275.1 0).trans rfl,(blk_cell BK275.1 1).trans rfl⟩ (fun hHeld=>?_);clear hK K;refine norm_ (a':=?_) ?_ ?_;rotate_left
      ·show Act.put _ (some 4) _=_
       simp only [Act.put,qSa,qSb,qSc,i64_w,i32_w];rfl
      exact norm_ qB104 (hCont (.slice Ao13 t278.length co13,v283,gb286) _ ⟨hHeld,qB51,qB52,qB73,qB74,GW286.1,GE286.1,NB275_286.1,NB286_275.1,qB22⟩)
     ·skip;refine box_step ?hg (N:=4) ?hd (cs:=#[.int .i64 0,.slice none 0 0]) (t:=26) ?hr ?_;(case hd=>rfl);(case hg=>rfl);(case hr=>first|(go_simp;done)|(go_simp;rfl));intro gb286 hg w13 hbox hb;have n0_:=qAm (Kd.R_below qB89 hb);have n1_:=qAm (blk_below (g:=gb275) (o:=.cells #[.int .i64 a0_0,.slice A0_1 l0_1.length c0_1] 26 (0,0)) qB73 hb);have n2_:=qAm (below_step qB37 hb);have n3_:=qAm (hbox);have n4_:=qAm ((by rw [hg];exact(below_size qB37):w.heap.size≤gb286));have n5_:=qAm ((by rw [hg];exact(below_size qB37):w.heap.size≤gb286));have n6_:=qAm ((by rw [hg];exact Nat.ne_of_lt (blk_lt (g:=gb275) (o:=.cells #[.int .i64 a0_0,.slice A0_1 l0_1.length c0_1] 26 (0,0)) qB73):gb275≠gb286));have n7_:=qAm ((by rw [hg];exact Nat.ne_of_gt (blk_lt (g:=gb275) (o:=.cells #[.int .i64 a0_0,.slice A0_1 l0_1.length c0_1] 26 (0,0)) qB73):gb286≠gb275));clear HO280 BK275 HB;have HO280:=n0_;have BK275:=n1_;have HB:=n2_;have BK286:=n3_;have GW286:=n4_;have GE286:=n5_;have NB275_286:=n6_;have NB286_275:=n7_;clear n0_ n1_ n2_ n3_ n4_ n5_ n6_ n7_ hb hbox hg;obtain⟨Ao14,co14,eo14⟩:=Kd.R_slice HO280.1
      (first|subst eo14|(injection eo14 with f1_ f2_ f3_;have f4_:=f1_.symm;have f5_:=f3_.symm;clear f1_ f2_ f3_;subst f4_;subst f5_))
      refine hK.out _ _ ⟨(blk_cell BK275.1 0).trans rfl,(blk_cell BK275.1 1).trans rfl⟩ (fun hHeld=>?_);clear hK K;refine norm_ (a':=?_) ?_ ?_;rotate_left
      ·show Act.put _ (some 4) _=_
       simp only [Act.put,qSa,qSb,qSc,i64_w,i32_w];rfl
      refine one_ (i:=3) (N:=some 13) #[true,true,true,true,false,false,false,true,false,false] rfl rfl (one_of HT_.1 (by kernel_rfl)) (by decide) (fun K hK=>?_);refine goes_ Try.func37 (by kernel_rfl) rfl #[.agg #[.int .i64 a0_0,.slice A0_1 l0_1.length c0_1],.agg #[.int .i64 t277,.slice Ao14 t278.length co14]] (by rfl) rfl rfl qB50 ?_;with_reducible refine(spec_l01Times.calls k a0_0 _ _ l0_1 t277 _ _ t278 t281 t282 true _ ?side1 ?side2 ?side3 ?side4 A5.1).mono ?_
      (case side1=>repeat(first|exact(Kd.C_below HR0_1.1 HB.1)|(with_reducible refine Kd.C_alloc ?_ _)|(with_reducible refine Kd.C_drewN ?_ _)|(with_reducible refine Kd.C_drew ?_)))
      (case side2=>exact HC0_1.1)
      (case side3=>repeat(first|exact(Kd.R_reads' HO280.1).2.2|(with_reducible refine Kd.C_alloc ?_ _)|(with_reducible refine Kd.C_drewN ?_ _)|(with_reducible refine Kd.C_drew ?_)))
      (case side4=>exact(Kd.R_reads' HO280.1).2.1)
      rintro e w15 ⟨v283,rfl,ho0,hb⟩;refine⟨_,rfl,?_⟩;have n0_:=qAm (Kd.R_elder' qB89 (Kd.R_base ho0) hb);have n1_:=qAm (Kd.R_lower (Kd.R_new' ho0 (Kd.R_lt qB89)) (below_size qB22));have n2_:=qAm (blk_below (g:=gb275) (o:=.cells #[.int .i64 a0_0,.slice A0_1 l0_1.length c0_1] 26 (0,0)) qB73 hb);have n3_:=qAm (blk_below (g:=gb286) (o:=.cells #[.int .i64 0,.slice none 0 0] 26 (0,0)) qB74 hb);have n4_:=qAm (below_step qB22 hb);clear HO280 BK275 BK286 HB;have HO280:=n0_;have HO284:=n1_;have BK275:=n2_;have BK286:=n3_;have HB:=n4_;clear n0_ n1_ n2_ n3_ n4_
      (try clear hb)
      (try clear hb2)
      (try clear hk)
      (try clear hi)
      (try clear ho0)
      refine hK.out _ _ ⟨(blk_cell BK275.1 0).trans rfl,(blk_cell BK275.1 1).trans rfl⟩ (fun hHeld=>?_);clear hK K;refine norm_ (a':=?_) ?_ ?_;rotate_left
      ·show Act.put _ (some 13) _=_
       simp only [Act.put,qSa,qSb,qSc,i64_w,i32_w];rfl
      refine pure_ (i:=4) (N:=some 9) (v:=?_) (a':=?_) #[true,true,true,true,true,false,false,true,false,false] rfl rfl (any_of HT_.1 (by kernel_rfl)) (fun _ _ _ h=>h) (Or.inl ⟨by rfl,?_⟩) ?_ ?_;rotate_left
      ·intro w';go_simp;with_reducible rfl
      rotate_left
      ·simp only [Act.put,qSa,qSb,qSc,i64_w,i32_w];rfl
      refine pure_ (i:=5) (N:=some 14) (v:=?_) (a':=?_) #[true,true,true,true,true,true,false,true,false,false] rfl rfl (any_of HT_.1 (by kernel_rfl)) (fun _ _ _ h=>h) (Or.inl ⟨by rfl,?_⟩) ?_ ?_;rotate_left
      ·intro w';go_simp;with_reducible rfl
      rotate_left
      ·simp only [Act.put,qSa,qSb,qSc,i64_w,i32_w];rfl
      refine pure_ (i:=6) (N:=some 15) (v:=?_) (a':=?_) #[true,true,true,true,true,true,true,true,false,false] rfl rfl (any_of HT_.1 (by kernel_rfl)) (fun _ _ _ h=>h) (Or.inl ⟨by rfl,?_⟩) ?_ ?_;rotate_left
      ·intro w';go_simp;with_reducible rfl
      rotate_left
      ·simp only [Act.put,qSa,qSb,qSc,i64_w,i32_w];rfl
      exact norm_ qB104 (hCont (.slice Ao14 t278.length co14,v283,gb286) _ ⟨hHeld,qB51,qB52,qB73,qB74,GW286.1,GE286.1,NB275_286.1,NB286_275.1,qB22⟩)
    ·skip;refine box_step ?hg (N:=4) ?hd (cs:=#[.int .i64 0,.slice none 0 0]) (t:=26) ?hr ?_;(case hd=>rfl);(case hg=>rfl);(case hr=>first|(go_simp;done)|(go_simp;rfl));intro gb286 hg w12 hbox hb;have n0_:=qAm (blk_below (g:=gb275) (o:=.cells #[.int .i64 a0_0,.slice A0_1 l0_1.length c0_1] 26 (0,0)) qB73 hb);have n1_:=qAm (below_step qB37 hb);have n2_:=qAm (hbox);have n3_:=qAm ((by rw [hg];exact(below_size qB37):w.heap.size≤gb286));have n4_:=qAm ((by rw [hg];exact(below_size qB37):w.heap.size≤gb286));have n5_:=qAm ((by rw [hg];exact Nat.ne_of_lt (blk_lt (g:=gb275) (o:=.cells #[.int .i64 a0_0,.slice A0_1 l0_1.length c0_1] 26 (0,0)) qB73):gb275≠gb286));have n6_:=qAm ((by rw [hg];exact Nat.ne_of_gt (blk_lt (g:=gb275) (o:=.cells #[.int .i64 a0_0,.slice A0_1 l0_1.length c0_1] 26 (0,0)) qB73):gb286≠gb275));clear BK275 HB;have BK275:=n0_;have HB:=n1_;have BK286:=n2_;have GW286:=n3_;have GE286:=n4_;have NB275_286:=n5_;have NB286_275:=n6_;clear n0_ n1_ n2_ n3_ n4_ n5_ n6_ hb hbox hg;refine hK.out _ _ ⟨(blk_cell BK275.1 0).trans rfl,(blk_cell BK275.1 1).trans rfl⟩ (fun hHeld=>?_);clear hK K;refine norm_ (a':=?_) ?_ ?_;rotate_left
     ·show Act.put _ (some 4) _=_
      simp only [Act.put,qSa,qSb,qSc,i64_w,i32_w];rfl
     refine one_ (i:=2) (N:=some 12) #[true,true,true,false,false,false,false,true,false,false] rfl rfl (one_of HT_.1 (by kernel_rfl)) (by decide) (fun K hK=>?_);refine goes_ Try.func49 (by kernel_rfl) rfl #[.agg #[.int .i64 a0_0,.slice A0_1 l0_1.length c0_1]] (by rfl) rfl rfl qB50 ?_;with_reducible refine(spec_l01Bar.calls k a0_0 _ _ l0_1 t277 t278 _ ?side1 ?side2 A4.1).mono ?_
     (case side1=>repeat(first|exact(Kd.C_below HR0_1.1 HB.1)|(with_reducible refine Kd.C_alloc ?_ _)|(with_reducible refine Kd.C_drewN ?_ _)|(with_reducible refine Kd.C_drew ?_)))
     (case side2=>exact HC0_1.1)
     rintro e w13 ⟨v279,rfl,ho0,hb⟩;refine⟨_,rfl,?_⟩;have n0_:=qAm (Kd.R_lower ho0 (below_size qB22));have n1_:=qAm (blk_below (g:=gb275) (o:=.cells #[.int .i64 a0_0,.slice A0_1 l0_1.length c0_1] 26 (0,0)) qB73 hb);have n2_:=qAm (blk_below (g:=gb286) (o:=.cells #[.int .i64 0,.slice none 0 0] 26 (0,0)) qB74 hb);have n3_:=qAm (below_step qB22 hb);clear BK275 BK286 HB;have HO280:=n0_;have BK275:=n1_;have BK286:=n2_;have HB:=n3_;clear n0_ n1_ n2_ n3_
     (try clear hb)
     (try clear hb2)
     (try clear hk)
     (try clear hi)
     (try clear ho0)
     obtain⟨Ao14,co14,eo14⟩:=Kd.R_slice HO280.1
     (first|subst eo14|(injection eo14 with f1_ f2_ f3_;have f4_:=f1_.symm;have f5_:=f3_.symm;clear f1_ f2_ f3_;subst f4_;subst f5_))
     refine hK.out _ _ ⟨(blk_cell BK275.1 0).trans rfl,(blk_cell BK275.1 1).trans rfl⟩ (fun hHeld=>?_);clear hK K;refine norm_ (a':=?_) ?_ ?_;rotate_left
     ·show Act.put _ (some 12) _=_
      simp only [Act.put,qSa,qSb,qSc,i64_w,i32_w];rfl
     refine one_ (i:=3) (N:=some 13) #[true,true,true,true,false,false,false,true,false,false] rfl rfl (one_of HT_.1 (by kernel_rfl)) (by decide) (fun K hK=>?_);refine goes_ Try.func37 (by kernel_rfl) rfl #[.agg #[.int .i64 a0_0,.slice A0_1 l0_1.length c0_1],.agg #[.int .i64 t277,.slice Ao14 t278.length co14]] (by rfl) rfl rfl qB50 ?_;with_reducible refine(spec_l01Times.calls k a0_0 _ _ l0_1 t277 _ _ t278 t281 t282 true _ ?side1 ?side2 ?side3 ?side4 A5.1).mono ?_
     (case side1=>repeat(first|exact(Kd.C_below HR0_1.1 HB.1)|(with_reducible refine Kd.C_alloc ?_ _)|(with_reducible refine Kd.C_drewN ?_ _)|(with_reducible refine Kd.C_drew ?_)))
     (case side2=>exact HC0_1.1)
     (case side3=>repeat(first|exact(Kd.R_reads' HO280.1).2.2|(with_reducible refine Kd.C_alloc ?_ _)|(with_reducible refine Kd.C_drewN ?_ _)|(with_reducible refine Kd.C_drew ?_)))
     (case side4=>exact(Kd.R_reads' HO280.1).2.1)
     rintro e w15 ⟨v283,rfl,ho0,hb⟩;refine⟨_,rfl,?_⟩;have n0_:=qAm (Kd.R_elder' qB89 (Kd.R_base ho0) hb);have n1_:=qAm (Kd.R_lower (Kd.R_new' ho0 (Kd.R_lt qB89)) (below_size qB22));have n2_:=qAm (blk_below (g:=gb275) (o:=.cells #[.int .i64 a0_0,.slice A0_1 l0_1.length c0_1] 26 (0,0)) qB73 hb);have n3_:=qAm (blk_below (g:=gb286) (o:=.cells #[.int .i64 0,.slice none 0 0] 26 (0,0)) qB74 hb);have n4_:=qAm (below_step qB22 hb);clear HO280 BK275 BK286 HB;have HO280:=n0_;have HO284:=n1_;have BK275:=n2_;have BK286:=n3_;have HB:=n4_;clear n0_ n1_ n2_ n3_ n4_
     (try clear hb)
     (try clear hb2)
     (try clear hk)
     (try clear hi)
     (try clear ho0)
     refine hK.out _ _ ⟨(blk_cell BK275.1 0).trans rfl,(blk_cell BK275.1 1).trans rfl⟩ (fun hHeld=>?_);clear hK K;refine norm_ (a':=?_) ?_ ?_;rotate_left
     ·show Act.put _ (some 13) _=_
      simp only [Act.put,qSa,qSb,qSc,i64_w,i32_w];rfl
     refine pure_ (i:=4) (N:=some 9) (v:=?_) (a':=?_) #[true,true,true,true,true,false,false,true,false,false] rfl rfl (any_of HT_.1 (by kernel_rfl)) (fun _ _ _ h=>h) (Or.inl ⟨by rfl,?_⟩) ?_ ?_;rotate_left
     ·intro w';go_simp;with_reducible rfl
     rotate_left
     ·simp only [Act.put,qSa,qSb,qSc,i64_w,i32_w];rfl
     refine pure_ (i:=5) (N:=some 14) (v:=?_) (a':=?_) #[true,true,true,true,true,true,false,true,false,false] rfl rfl (any_of HT_.1 (by kernel_rfl)) (fun _ _ _ h=>h) (Or.inl ⟨by rfl,?_⟩) ?_ ?_;rotate_left
     ·intro w';go_simp;with_reducible rfl
     rotate_left
     ·simp only [Act.put,qSa,qSb,qSc,i64_w,i32_w];rfl
     refine pure_ (i:=6) (N:=some 15) (v:=?_) (a':=?_) #[true,true,true,true,true,true,true,true,false,false] rfl rfl (any_of HT_.1 (by kernel_rfl)) (fun _ _ _ h=>h) (Or.inl ⟨by rfl,?_⟩) ?_ ?_;rotate_left
     ·intro w';go_simp;with_reducible rfl
     rotate_left
     ·simp only [Act.put,qSa,qSb,qSc,i64_w,i32_w];rfl
     exact norm_ qB104 (hCont (.slice Ao14 t278.length co14,v283,gb286) _ ⟨hHeld,qB51,qB52,qB73,qB74,GW286.1,GE286.1,NB275_286.1,NB286_275.1,qB22⟩)
   rintro⟨v279,v283,gb286⟩ w16 ⟨hS_,h0_,h1_,h2_,h3_,h4_,h5_,h6_,h7_,h8_⟩;have n0_:Aside0 (Kd.R (Kd.int .i64) 2 w16 w.heap.size (fun k_=>some k_≠(v283:Value).ownBlock) v279 t278):=⟨h0_⟩
   have n1_:Aside0 (Kd.R (Kd.int .i64) 2 w16 w.heap.size (fun k_=>some k_≠(v279:Value).ownBlock) v283 t282):=⟨h1_⟩
   have n2_:Aside0 (w16.heap[gb275]? =some (.cells #[.int .i64 a0_0,.slice A0_1 l0_1.length c0_1] 26 (0,0))):=⟨h2_⟩
   have n3_:Aside0 (w16.heap[gb286]? =some (.cells #[.int .i64 0,.slice none 0 0] 26 (0,0))):=⟨h3_⟩
   have n4_:Aside0 (w.heap.size≤gb286):=⟨h4_⟩
   have n5_:Aside0 (w.heap.size≤gb286):=⟨h5_⟩
   have n6_:Aside0 (gb275≠gb286):=⟨h6_⟩
   have n7_:Aside0 (gb286≠gb275):=⟨h7_⟩
   have n8_:Aside0 (Below w.heap.size w w16):=⟨h8_⟩
   clear BK275 HB h0_ h1_ h2_ h3_ h4_ h5_ h6_ h7_ h8_;have HO280:=n0_;have HO284:=n1_;have BK275:=n2_;have BK286:=n3_;have GW286:=n4_;have GE286:=n5_;have NB275_286:=n6_;have NB286_275:=n7_;have HB:=n8_;clear n0_ n1_ n2_ n3_ n4_ n5_ n6_ n7_ n8_;have hHeld:w16.cell? ⟨gb275,0,none⟩=some (.int .i64 a0_0)∧w16.cell? ⟨gb275,1,none⟩=some (.slice A0_1 l0_1.length c0_1):=hS_;obtain⟨Ao18,co18,eo18⟩:=Kd.R_slice HO284.1
   (first|subst eo18|(injection eo18 with f1_ f2_ f3_;have f4_:=f1_.symm;have f5_:=f3_.symm;clear f1_ f2_ f3_;subst f4_;subst f5_))
   refine norm_ (a':=?_) ?_ ?_;rotate_left
   ·simp only [putAll,Act.put,qSa,qSb,qSc];rfl
   refine one_ (i:=8) (N:=none) #[true,true,true,true,true,true,true,true,true,false] rfl rfl (one_of HT_.1 (by kernel_rfl)) (by decide) (fun K hK=>?_);have hs17:w16.cell? ⟨gb286,0,none⟩=some (.int .i64 0):=(blk_cell BK286.1 0).trans rfl;have hfs17:=blk_frozen BK286.1 0;have hns17_0:=NB275_286.1;have hms17_0:=NB286_275.1;have hs19:w16.cell? ⟨gb286,1,none⟩=some (.slice none 0 0):=(blk_cell BK286.1 1).trans rfl;have hfs19:=blk_frozen BK286.1 1;have hns19_0:=NB275_286.1;have hms19_0:=NB286_275.1;refine skip_ (w1:=?_) (by rfl) rfl ?_ ?_;rotate_left
   ·go_simp;rfl
   refine hK.out _ _ ⟨((cell_far (p:=⟨gb286,_,none⟩) NB275_286.1 _).trans (((cell_far (p:=⟨gb286,_,none⟩) NB275_286.1 _).trans (hHeld.1)))),((cell_far (p:=⟨gb286,_,none⟩) NB275_286.1 _).trans (((cell_far (p:=⟨gb286,_,none⟩) NB275_286.1 _).trans (hHeld.2))))⟩ (fun hHeld=>?_);clear hK K;refine pure_ (i:=9) (N:=some 5) (v:=?_) (a':=?_) #[true,true,true,true,true,true,true,true,true,true] rfl rfl (any_of HT_.1 (by kernel_rfl)) (fun _ _ _ h=>h) (Or.inl ⟨by rfl,?_⟩) ?_ ?_;rotate_left
   ·intro w';go_simp;with_reducible rfl
   rotate_left
   ·simp only [Act.put,qSa,qSb,qSc,i64_w,i32_w];rfl
   refine done_ (done_of HT_.1 (by kernel_rfl)) ?_;have hnb20:=NB286_275.1;have hnc20:=NB275_286.1;have hcz21_0:w16.cell? ⟨gb286,0,none⟩=some (.int .i64 0):=(blk_cell BK286.1 0).trans rfl;have hcz21_1:w16.cell? ⟨gb286,1,none⟩=some (.slice none 0 0):=(blk_cell BK286.1 1).trans rfl;have hfz21_0:=blk_frozen BK286.1 0;have hfz21_1:=blk_frozen BK286.1 1;try go_wp2_with (first|((with_reducible refine gate_callee (f:=50) rfl ?_);refine goesL_ (some 19) rfl rfl Try.func50 (by kernel_rfl) rfl #[.agg #[.int .i64 t281,.slice Ao18 t282.length co18]] rfl qB50 ?_;(with_reducible refine(spec_l02Trace.calls k t281 _ _ t282 t287 _ ?side1 ?side2 A7.1).mono ?_);(case side1=>refine(Kd.R_reads' (e:=2) (base:=w.heap.size) (ok:=fun k_=>some k_≠(v279:Value).ownBlock) (n:=t282.length) (c:=co18) ?_).2.2;exact qB7);(case side2=>exact(Kd.R_reads' HO284.1).2.1);rintro e w22 ⟨rfl,hb⟩;refine⟨_,rfl,?_⟩;have n0_:=qAm (Kd.R_below (by (with_reducible repeat(first|apply Kd.R_alloc|apply Kd.R_drewN|apply Kd.R_drew));exact(Kd.R_mono (Kd.R_far (p:=⟨gb286,1,none⟩) (Kd.R_far (p:=⟨gb286,0,none⟩) (Kd.R_types HO280.1 BK286.1 (by decide)) (fun _ hk=>hk.2) (.int .i64 t281)) (fun _ hk=>hk.2) (.slice Ao18 t282.length co18)) (fun _ h_=>h_.1))) hb);have n1_:=qAm (Kd.R_below qB7 hb);have n2_:=qAm (blk_below (g:=gb275) (o:=.cells #[.int .i64 a0_0,.slice A0_1 l0_1.length c0_1] 26 (0,0)) (by (with_reducible repeat(first|refine blk_drewN ?_ _|refine blk_drew ?_|refine blk_alloc ?_ _));refine blk_far ?_ NB275_286.1 _;(with_reducible repeat(first|refine blk_drewN ?_ _|refine blk_drew ?_|refine blk_alloc ?_ _));refine blk_far ?_ NB275_286.1 _;(with_reducible repeat(first|refine blk_drewN ?_ _|refine blk_drew ?_|refine blk_alloc ?_ _));exact BK275.1) hb);have n3_:=qAm (blk_below (g:=gb286) (o:=.cells #[.int .i64 t281,.slice Ao18 t282.length co18] 26 (0,0)) (by (with_reducible repeat(first|refine blk_drewN ?_ _|refine blk_drew ?_|refine blk_alloc ?_ _));refine blk_put (cs:=#[.int .i64 t281,.slice none 0 0]) ?_ 1 _ rfl;(with_reducible repeat(first|refine blk_drewN ?_ _|refine blk_drew ?_|refine blk_alloc ?_ _));refine blk_put (cs:=#[.int .i64 0,.slice none 0 0]) ?_ 0 _ rfl;(with_reducible repeat(first|refine blk_drewN ?_ _|refine blk_drew ?_|refine blk_alloc ?_ _));exact BK286.1) hb);have n4_:=qAm (below_step qB22 hb);clear HO280;clear HO284;clear BK275;clear BK286;clear HB;have HO280:=n0_;have HO284:=n1_;have BK275:=n2_;have BK286:=n3_;have HB:=n4_;clear n0_ n1_ n2_ n3_ n4_;(try clear hb);(try clear hb2);(try clear hk);(try clear hi)))
   go_ret2;exact⟨by first|rfl|(simp [errW_none,errW_some] <;> rfl)|(simp [*,errW_none,errW_some] <;> rfl),by repeat(first|(with_reducible first|exact HB.1|apply below_alloc|apply pw_below_drewN|apply below_drew1|refine below_set ?_ GE275.1|refine below_set ?_ GE286.1)|exact HB.1)⟩
  ·replace c6:=Bool.eq_false_iff.mpr c6;subst c6;have H1:(some (0,3))=some (r1,r2):=by rw [if_neg (show ¬(false=true) by decide)] at H;exact H
   clear H;have H:=H1;clear H1;simp only [Option.some.injEq,Prod.mk.injEq] at H;obtain⟨rfl,rfl⟩:=H;go_enter Try.func20,Try.ntmps20;try go_wp2_with (first|((with_reducible refine gate_dst (N:=1) rfl ?_);refine box_event ?hg (N:=1) ?hd (cs:=#[.int .i64 a0_0,.slice A0_1 l0_1.length c0_1]) (t:=26) ?hr ?_;(case hd=>rfl);(case hg=>rfl);(case hr=>first|(go_simp;done)|(go_simp;rfl));intro gb275 hg w23 hbox hb;have n0_:=qAm (below_step qB53 hb);have n1_:=qAm (hbox);have n2_:=qAm ((by rw [hg];exact(below_size qB53):w.heap.size≤gb275));have n3_:=qAm ((by rw [hg];exact(below_size qB53):w.heap.size≤gb275));clear HB;have HB:=n0_;have BK275:=n1_;have GW275:=n2_;have GE275:=n3_;clear n0_ n1_ n2_ n3_;clear hb hbox hg;have hcz24_0:w23.cell? ⟨gb275,0,none⟩=some (.int .i64 a0_0):=(blk_cell BK275.1 0).trans rfl;have hcz24_1:w23.cell? ⟨gb275,1,none⟩=some (.slice A0_1 l0_1.length c0_1):=(blk_cell BK275.1 1).trans rfl;have hfz24_0:=blk_frozen BK275.1 0;have hfz24_1:=blk_frozen BK275.1 1)|((with_reducible refine gate_callee (f:=43) rfl ?_);refine goesL_ (some 7) rfl rfl Try.func43 (by kernel_rfl) rfl #[.agg #[.int .i64 a0_0,.slice A0_1 l0_1.length c0_1]] rfl qB50 ?_;(with_reducible refine(spec_l01Is.calls k a0_0 _ _ l0_1 true _ ?side1 ?side2 A2.1).mono ?_);(case side1=>repeat(first|exact(Kd.C_below HR0_1.1 HB.1)|(with_reducible refine Kd.C_alloc ?_ _)|(with_reducible refine Kd.C_drewN ?_ _)|(with_reducible refine Kd.C_drew ?_)));(case side2=>exact HC0_1.1);rintro e w25 ⟨rfl,hb⟩;refine⟨_,rfl,?_⟩;have n0_:=qAm (blk_below (g:=gb275) (o:=.cells #[.int .i64 a0_0,.slice A0_1 l0_1.length c0_1] 26 (0,0)) qB73 hb);have n1_:=qAm (below_step qB37 hb);clear BK275;clear HB;have BK275:=n0_;have HB:=n1_;clear n0_ n1_;(try clear hb);(try clear hb2);(try clear hk);(try clear hi)))
   have n0_:=qAm (blk_drew BK275.1);have n1_:=qAm (below_drew1 HB.1);clear BK275 HB;have BK275:=n0_;have HB:=n1_;clear n0_ n1_;refine start_ (n:=10) (S:=fun w'=>w'.cell? ⟨gb275,0,none⟩=some (.int .i64 a0_0)∧w'.cell? ⟨gb275,1,none⟩=some (.slice A0_1 l0_1.length c0_1)) (ds:=[]) #[false,false,false,false,false,false,false,false,false,false] (by kernel_rfl) rfl rfl ⟨(blk_cell BK275.1 0).trans rfl,(blk_cell BK275.1 1).trans rfl⟩ (fun hHeld=>?_);refine with_tabW spec_SizeOf.tab3 spec_SizeOf.bits3 (fun HT_ HW_=>?_);generalize w25.drew=w26 at BK275 HB hHeld ⊢;refine take_ (i:=0) (N:=some 10) (v:=?_) (a':=?_) #[true,false,false,false,false,false,false,false,false,false] rfl rfl (take_ofW HT_.1 HW_.1 (by kernel_rfl)) (fun _ _ _ h=>h) (Or.inl ⟨by rfl,?_⟩) hHeld ?_ ?_;rotate_left
   ·rintro w' ⟨s0,s1⟩;go_simp;with_reducible rfl
   rotate_left
   ·simp only [Act.put,qSa,qSb,qSc,i64_w,i32_w];rfl
   refine take_ (i:=1) (N:=some 11) (v:=?_) (a':=?_) #[true,true,false,false,false,false,false,false,false,false] rfl rfl (take_ofW HT_.1 HW_.1 (by kernel_rfl)) (fun _ _ _ h=>h) (Or.inl ⟨by rfl,?_⟩) hHeld ?_ ?_;rotate_left
   ·rintro w' ⟨s0,s1⟩;go_simp;with_reducible rfl
   rotate_left
   ·simp only [Act.put,qSa,qSb,qSc,i64_w,i32_w];rfl
   refine join_ (σ:=Value×Value×Nat) 2 #[true,true,true,true,true,true,true,true,false,false] (fun s_=>[(12,.agg #[.int .i64 t277,s_.1]),(13,.tuple #[.agg #[.int .i64 t281,s_.2.1],.bool false]),(4,.pointer (some ⟨s_.2.2,0,none⟩)),(9,.tuple #[.agg #[.int .i64 t281,s_.2.1],.bool false]),(14,.agg #[.int .i64 t281,s_.2.1]),(15,.bool false)]) (fun s_ w'=>(w'.cell? ⟨gb275,0,none⟩=some (.int .i64 a0_0)∧w'.cell? ⟨gb275,1,none⟩=some (.slice A0_1 l0_1.length c0_1))∧(Kd.R (Kd.int .i64) 2 w' w.heap.size (fun k_=>some k_≠(s_.2.1:Value).ownBlock) s_.1 t278)∧(Kd.R (Kd.int .i64) 2 w' w.heap.size (fun k_=>some k_≠(s_.1:Value).ownBlock) s_.2.1 t282)∧(w'.heap[gb275]? =some (.cells #[.int .i64 a0_0,.slice A0_1 l0_1.length c0_1] 26 (0,0)))∧(w'.heap[s_.2.2]? =some (.cells #[.int .i64 0,.slice none 0 0] 26 (0,0)))∧(w.heap.size≤s_.2.2)∧(w.heap.size≤s_.2.2)∧(gb275≠s_.2.2)∧(s_.2.2≠gb275)∧(Below w.heap.size w w')) ?_ ?_;rotate_left
   ·intro hCont;refine two_ (i:=2) (j:=7) (Ni:=some 12) (Nj:=some 4) #[true,true,true,false,false,false,false,false,false,false] #[true,true,false,false,false,false,false,true,false,false] rfl rfl rfl rfl (two_of HT_.1 (by kernel_rfl)) (by decide) (by decide) (fun K hK=>?_) (fun K hK=>?_)
    ·skip;refine goes_ Try.func49 (by kernel_rfl) rfl #[.agg #[.int .i64 a0_0,.slice A0_1 l0_1.length c0_1]] (by rfl) rfl rfl qB50 ?_;with_reducible refine(spec_l01Bar.calls k a0_0 _ _ l0_1 t277 t278 _ ?side1 ?side2 A4.1).mono ?_
     (case side1=>repeat(first|exact(Kd.C_below HR0_1.1 HB.1)|(with_reducible refine Kd.C_alloc ?_ _)|(with_reducible refine Kd.C_drewN ?_ _)|(with_reducible refine Kd.C_drew ?_)))
     (case side2=>exact HC0_1.1)
     rintro e w27 ⟨v279,rfl,ho0,hb⟩;refine⟨_,rfl,?_⟩;have n0_:=qAm (Kd.R_lower ho0 (below_size qB37));have n1_:=qAm (blk_below (g:=gb275) (o:=.cells #[.int .i64 a0_0,.slice A0_1 l0_1.length c0_1] 26 (0,0)) qB73 hb);have n2_:=qAm (below_step qB37 hb);clear BK275 HB;have HO280:=n0_;have BK275:=n1_;have HB:=n2_;clear n0_ n1_ n2_
     (try clear hb)
     (try clear hb2)
     (try clear hk)
     (try clear hi)
     (try clear ho0)
     obtain⟨Ao28,co28,eo28⟩:=Kd.R_slice HO280.1
     (first|subst eo28|(injection eo28 with f1_ f2_ f3_;have f4_:=f1_.symm;have f5_:=f3_.symm;clear f1_ f2_ f3_;subst f4_;subst f5_))
     refine hK.out _ _ ⟨(blk_cell BK275.1 0).trans rfl,(blk_cell BK275.1 1).trans rfl⟩ (fun hHeld=>?_);clear hK K;refine norm_ (a':=?_) ?_ ?_;rotate_left
     ·show Act.put _ (some 12) _=_
      simp only [Act.put,qSa,qSb,qSc,i64_w,i32_w];rfl
     refine two_ (i:=3) (j:=7) (Ni:=some 13) (Nj:=some 4) #[true,true,true,true,false,false,false,false,false,false] #[true,true,true,false,false,false,false,true,false,false] rfl rfl rfl rfl (two_of HT_.1 (by kernel_rfl)) (by decide) (by decide) (fun K hK=>?_) (fun K hK=>?_)
     ·skip;refine goes_ Try.func37 (by kernel_rfl) rfl #[.agg #[.int .i64 a0_0,.slice A0_1 l0_1.length c0_1],.agg #[.int .i64 t277,.slice Ao28 t278.length co28]] (by rfl) rfl rfl qB50 ?_;with_reducible refine(spec_l01Times.calls k a0_0 _ _ l0_1 t277 _ _ t278 t281 t282 false _ ?side1 ?side2 ?side3 ?side4 A5.1).mono ?_
      (case side1=>repeat(first|exact(Kd.C_below HR0_1.1 HB.1)|(with_reducible refine Kd.C_alloc ?_ _)|(with_reducible refine Kd.C_drewN ?_ _)|(with_reducible refine Kd.C_drew ?_)))
      (case side2=>exact HC0_1.1)
      (case side3=>repeat(first|exact(Kd.R_reads' HO280.1).2.2|(with_reducible refine Kd.C_alloc ?_ _)|(with_reducible refine Kd.C_drewN ?_ _)|(with_reducible refine Kd.C_drew ?_)))
      (case side4=>exact(Kd.R_reads' HO280.1).2.1)
      rintro e w29 ⟨v283,rfl,ho0,hb⟩;refine⟨_,rfl,?_⟩;have n0_:=qAm (Kd.R_elder' qB89 (Kd.R_base ho0) hb);have n1_:=qAm (Kd.R_lower (Kd.R_new' ho0 (Kd.R_lt qB89)) (below_size qB37));have n2_:=qAm (blk_below (g:=gb275) (o:=.cells #[.int .i64 a0_0,.slice A0_1 l0_1.length c0_1] 26 (0,0)) qB73 hb);have n3_:=qAm (below_step qB37 hb);clear HO280 BK275 HB;have HO280:=n0_;have HO284:=n1_;have BK275:=n2_;have HB:=n3_;clear n0_ n1_ n2_ n3_
      (try clear hb)
      (try clear hb2)
      (try clear hk)
      (try clear hi)
      (try clear ho0)
      refine hK.out _ _ ⟨(blk_cell BK275.1 0).trans rfl,(blk_cell BK275.1 1).trans rfl⟩ (fun hHeld=>?_);clear hK K;refine norm_ (a':=?_) ?_ ?_;rotate_left
      ·show Act.put _ (some 13) _=_
       simp only [Act.put,qSa,qSb,qSc,i64_w,i32_w];rfl
      refine pure_ (i:=4) (N:=some 9) (v:=?_) (a':=?_) #[true,true,true,true,true,false,false,false,false,false] rfl rfl (any_of HT_.1 (by kernel_rfl)) (fun _ _ _ h=>h) (Or.inl ⟨by rfl,?_⟩) ?_ ?_;rotate_left
      ·intro w';go_simp;with_reducible rfl
      rotate_left
      ·simp only [Act.put,qSa,qSb,qSc,i64_w,i32_w];rfl
      refine pure_ (i:=5) (N:=some 14) (v:=?_) (a':=?_) #[true,true,true,true,true,true,false,false,false,false] rfl rfl (any_of HT_.1 (by kernel_rfl)) (fun _ _ _ h=>h) (Or.inl ⟨by rfl,?_⟩) ?_ ?_;rotate_left
      ·intro w';go_simp;with_reducible rfl
      rotate_left
      ·simp only [Act.put,qSa,qSb,qSc,i64_w,i32_w];rfl
      refine pure_ (i:=6) (N:=some 15) (v:=?_) (a':=?_) #[true,true,true,true,true,true,true,false,false,false] rfl rfl (any_of HT_.1 (by kernel_rfl)) (fun _ _ _ h=>h) (Or.inl ⟨by rfl,?_⟩) ?_ ?_;rotate_left
      ·intro w';go_simp;with_reducible rfl
      rotate_left
      ·simp only [Act.put,qSa,qSb,qSc,i64_w,i32_w];rfl
      refine one_ (i:=7) (N:=some 4) #[true,true,true,true,true,true,true,true,false,false] rfl rfl (one_of HT_.1 (by kernel_rfl)) (by decide) (fun K hK=>?_);refine box_step ?hg (N:=4) ?hd (cs:=#[.int .i64 0,.slice none 0 0]) (t:=26) ?hr ?_;(case hd=>rfl);(case hg=>rfl);(case hr=>first|(go_simp;done)|(go_simp;rfl));intro gb286 hg w30 hbox hb;have n0_:=qAm (Kd.R_below qB89 hb);have n1_:=qAm (Kd.R_below qB90 hb);have n2_:=qAm (blk_below (g:=gb275) (o:=.cells #[.int .i64 a0_0,.slice A0_1 l0_1.length c0_1] 26 (0,0)) qB73 hb);have n3_:=qAm (below_step qB37 hb);have n4_:=qAm (hbox);have n5_:=qAm ((by rw [hg];exact(below_size qB37):w.heap.size≤gb286));have n6_:=qAm ((by rw [hg];exact(below_size qB37):w.heap.size≤gb286));have n7_:=qAm ((by rw [hg];exact Nat.ne_of_lt (blk_lt (g:=gb275) (o:=.cells #[.int .i64 a0_0,.slice A0_1 l0_1.length c0_1] 26 (0,0)) qB73):gb275≠gb286));have n8_:=qAm ((by rw [hg];exact Nat.ne_of_gt (blk_lt (g:=gb275) (o:=.cells #[.int .i64 a0_0,.slice A0_1 l0_1.length c0_1] 26 (0,0)) qB73):gb286≠gb275));clear HO280 HO284 BK275 HB;have HO280:=n0_;have HO284:=n1_;have BK275:=n2_;have HB:=n3_;have BK286:=n4_;have GW286:=n5_;have GE286:=n6_;have NB275_286:=n7_;have NB286_275:=n8_;clear n0_ n1_ n2_ n3_ n4_ n5_ n6_ n7_ n8_ hb hbox hg;refine hK.out _ _ ⟨(blk_cell BK275.1 0).trans rfl,(blk_cell BK275.1 1).trans rfl⟩ (fun hHeld=>?_);clear hK K;refine norm_ (a':=?_) ?_ ?_;rotate_left
      ·show Act.put _ (some 4) _=_
       simp only [Act.put,qSa,qSb,qSc,i64_w,i32_w];rfl
      exact norm_ qB104 (hCont (.slice Ao28 t278.length co28,v283,gb286) _ ⟨hHeld,qB51,qB52,qB73,qB74,GW286.1,GE286.1,NB275_286.1,NB286_275.1,qB22⟩)
     ·skip;refine box_step ?hg (N:=4) ?hd (cs:=#[.int .i64 0,.slice none 0 0]) (t:=26) ?hr ?_;(case hd=>rfl);(case hg=>rfl);(case hr=>first|(go_simp;done)|(go_simp;rfl));intro gb286 hg w28 hbox hb;have n0_:=qAm (Kd.R_below qB89 hb);have n1_:=qAm (blk_below (g:=gb275) (o:=.cells #[.int .i64 a0_0,.slice A0_1 l0_1.length c0_1] 26 (0,0)) qB73 hb);have n2_:=qAm (below_step qB37 hb);have n3_:=qAm (hbox);have n4_:=qAm ((by rw [hg];exact(below_size qB37):w.heap.size≤gb286));have n5_:=qAm ((by rw [hg];exact(below_size qB37):w.heap.size≤gb286));have n6_:=qAm ((by rw [hg];exact Nat.ne_of_lt (blk_lt (g:=gb275) (o:=.cells #[.int .i64 a0_0,.slice A0_1 l0_1.length c0_1] 26 (0,0)) qB73):gb275≠gb286));have n7_:=qAm ((by rw [hg];exact Nat.ne_of_gt (blk_lt (g:=gb275) (o:=.cells #[.int .i64 a0_0,.slice A0_1 l0_1.length c0_1] 26 (0,0)) qB73):gb286≠gb275));clear HO280 BK275 HB;have HO280:=n0_;have BK275:=n1_;have HB:=n2_;have BK286:=n3_;have GW286:=n4_;have GE286:=n5_;have NB275_286:=n6_;have NB286_275:=n7_;clear n0_ n1_ n2_ n3_ n4_ n5_ n6_ n7_ hb hbox hg;obtain⟨Ao29,co29,eo29⟩:=Kd.R_slice HO280.1
      (first|subst eo29|(injection eo29 with f1_ f2_ f3_;have f4_:=f1_.symm;have f5_:=f3_.symm;clear f1_ f2_ f3_;subst f4_;subst f5_))
      refine hK.out _ _ ⟨(blk_cell BK275.1 0).trans rfl,(blk_cell BK275.1 1).trans rfl⟩ (fun hHeld=>?_);clear hK K;refine norm_ (a':=?_) ?_ ?_;rotate_left
      ·show Act.put _ (some 4) _=_
       simp only [Act.put,qSa,qSb,qSc,i64_w,i32_w];rfl
      refine one_ (i:=3) (N:=some 13) #[true,true,true,true,false,false,false,true,false,false] rfl rfl (one_of HT_.1 (by kernel_rfl)) (by decide) (fun K hK=>?_);refine goes_ Try.func37 (by kernel_rfl) rfl #[.agg #[.int .i64 a0_0,.slice A0_1 l0_1.length c0_1],.agg #[.int .i64 t277,.slice Ao29 t278.length co29]] (by rfl) rfl rfl qB50 ?_;with_reducible refine(spec_l01Times.calls k a0_0 _ _ l0_1 t277 _ _ t278 t281 t282 false _ ?side1 ?side2 ?side3 ?side4 A5.1).mono ?_
      (case side1=>repeat(first|exact(Kd.C_below HR0_1.1 HB.1)|(with_reducible refine Kd.C_alloc ?_ _)|(with_reducible refine Kd.C_drewN ?_ _)|(with_reducible refine Kd.C_drew ?_)))
      (case side2=>exact HC0_1.1)
      (case side3=>repeat(first|exact(Kd.R_reads' HO280.1).2.2|(with_reducible refine Kd.C_alloc ?_ _)|(with_reducible refine Kd.C_drewN ?_ _)|(with_reducible refine Kd.C_drew ?_)))
      (case side4=>exact(Kd.R_reads' HO280.1).2.1)
      rintro e w30 ⟨v283,rfl,ho0,hb⟩;refine⟨_,rfl,?_⟩;have n0_:=qAm (Kd.R_elder' qB89 (Kd.R_base ho0) hb);have n1_:=qAm (Kd.R_lower (Kd.R_new' ho0 (Kd.R_lt qB89)) (below_size qB22));have n2_:=qAm (blk_below (g:=gb275) (o:=.cells #[.int .i64 a0_0,.slice A0_1 l0_1.length c0_1] 26 (0,0)) qB73 hb);have n3_:=qAm (blk_below (g:=gb286) (o:=.cells #[.int .i64 0,.slice none 0 0] 26 (0,0)) qB74 hb);have n4_:=qAm (below_step qB22 hb);clear HO280 BK275 BK286 HB;have HO280:=n0_;have HO284:=n1_;have BK275:=n2_;have BK286:=n3_;have HB:=n4_;clear n0_ n1_ n2_ n3_ n4_
      (try clear hb)
      (try clear hb2)
      (try clear hk)
      (try clear hi)
      (try clear ho0)
      refine hK.out _ _ ⟨(blk_cell BK275.1 0).trans rfl,(blk_cell BK275.1 1).trans rfl⟩ (fun hHeld=>?_);clear hK K;refine norm_ (a':=?_) ?_ ?_;rotate_left
      ·show Act.put _ (some 13) _=_
       simp only [Act.put,qSa,qSb,qSc,i64_w,i32_w];rfl
      refine pure_ (i:=4) (N:=some 9) (v:=?_) (a':=?_) #[true,true,true,true,true,false,false,true,false,false] rfl rfl (any_of HT_.1 (by kernel_rfl)) (fun _ _ _ h=>h) (Or.inl ⟨by rfl,?_⟩) ?_ ?_;rotate_left
      ·intro w';go_simp;with_reducible rfl
      rotate_left
      ·simp only [Act.put,qSa,qSb,qSc,i64_w,i32_w];rfl
      refine pure_ (i:=5) (N:=some 14) (v:=?_) (a':=?_) #[true,true,true,true,true,true,false,true,false,false] rfl rfl (any_of HT_.1 (by kernel_rfl)) (fun _ _ _ h=>h) (Or.inl ⟨by rfl,?_⟩) ?_ ?_;rotate_left
      ·intro w';go_simp;with_reducible rfl
      rotate_left
      ·simp only [Act.put,qSa,qSb,qSc,i64_w,i32_w];rfl
      refine pure_ (i:=6) (N:=some 15) (v:=?_) (a':=?_) #[true,true,true,true,true,true,true,true,false,false] rfl rfl (any_of HT_.1 (by kernel_rfl)) (fun _ _ _ h=>h) (Or.inl ⟨by rfl,?_⟩) ?_ ?_;rotate_left
      ·intro w';go_simp;with_reducible rfl
      rotate_left
      ·simp only [Act.put,qSa,qSb,qSc,i64_w,i32_w];rfl
      exact norm_ qB104 (hCont (.slice Ao29 t278.length co29,v283,gb286) _ ⟨hHeld,qB51,qB52,qB73,qB74,GW286.1,GE286.1,NB275_286.1,NB286_275.1,qB22⟩)
    ·skip;refine box_step ?hg (N:=4) ?hd (cs:=#[.int .i64 0,.slice none 0 0]) (t:=26) ?hr ?_;(case hd=>rfl);(case hg=>rfl);(case hr=>first|(go_simp;done)|(go_simp;rfl));intro gb286 hg w27 hbox hb;have n0_:=qAm (blk_below (g:=gb275) (o:=.cells #[.int .i64 a0_0,.slice A0_1 l0_1.length c0_1] 26 (0,0)) qB73 hb);have n1_:=qAm (below_step qB37 hb);have n2_:=qAm (hbox);have n3_:=qAm ((by rw [hg];exact(below_size qB37):w.heap.size≤gb286));have n4_:=qAm ((by rw [hg];exact(below_size qB37):w.heap.size≤gb286));have n5_:=qAm ((by rw [hg];exact Nat.ne_of_lt (blk_lt (g:=gb275) (o:=.cells #[.int .i64 a0_0,.slice A0_1 l0_1.length c0_1] 26 (0,0)) qB73):gb275≠gb286));have n6_:=qAm ((by rw [hg];exact Nat.ne_of_gt (blk_lt (g:=gb275) (o:=.cells #[.int .i64 a0_0,.slice A0_1 l0_1.length c0_1] 26 (0,0)) qB73):gb286≠gb275));clear BK275 HB;have BK275:=n0_;have HB:=n1_;have BK286:=n2_;have GW286:=n3_;have GE286:=n4_;have NB275_286:=n5_;have NB286_275:=n6_;clear n0_ n1_ n2_ n3_ n4_ n5_ n6_ hb hbox hg;refine hK.out _ _ ⟨(blk_cell BK275.1 0).trans rfl,(blk_cell BK275.1 1).trans rfl⟩ (fun hHeld=>?_);clear hK K;refine norm_ (a':=?_) ?_ ?_;rotate_left
     ·show Act.put _ (some 4) _=_
      simp only [Act.put,qSa,qSb,qSc,i64_w,i32_w];rfl
     refine one_ (i:=2) (N:=some 12) #[true,true,true,false,false,false,false,true,false,false] rfl rfl (one_of HT_.1 (by kernel_rfl)) (by decide) (fun K hK=>?_);refine goes_ Try.func49 (by kernel_rfl) rfl #[.agg #[.int .i64 a0_0,.slice A0_1 l0_1.length c0_1]] (by rfl) rfl rfl qB50 ?_;with_reducible refine(spec_l01Bar.calls k a0_0 _ _ l0_1 t277 t278 _ ?side1 ?side2 A4.1).mono ?_
     (case side1=>repeat(first|exact(Kd.C_below HR0_1.1 HB.1)|(with_reducible refine Kd.C_alloc ?_ _)|(with_reducible refine Kd.C_drewN ?_ _)|(with_reducible refine Kd.C_drew ?_)))
     (case side2=>exact HC0_1.1)
     rintro e w28 ⟨v279,rfl,ho0,hb⟩;refine⟨_,rfl,?_⟩;have n0_:=qAm (Kd.R_lower ho0 (below_size qB22));have n1_:=qAm (blk_below (g:=gb275) (o:=.cells #[.int .i64 a0_0,.slice A0_1 l0_1.length c0_1] 26 (0,0)) qB73 hb);have n2_:=qAm (blk_below (g:=gb286) (o:=.cells #[.int .i64 0,.slice none 0 0] 26 (0,0)) qB74 hb);have n3_:=qAm (below_step qB22 hb);clear BK275 BK286 HB;have HO280:=n0_;have BK275:=n1_;have BK286:=n2_;have HB:=n3_;clear n0_ n1_ n2_ n3_
     (try clear hb)
     (try clear hb2)
     (try clear hk)
     (try clear hi)
     (try clear ho0)
     obtain⟨Ao29,co29,eo29⟩:=Kd.R_slice HO280.1
     (first|subst eo29|(injection eo29 with f1_ f2_ f3_;have f4_:=f1_.symm;have f5_:=f3_.symm;clear f1_ f2_ f3_;subst f4_;subst f5_))
     refine hK.out _ _ ⟨(blk_cell BK275.1 0).trans rfl,(blk_cell BK275.1 1).trans rfl⟩ (fun hHeld=>?_);clear hK K;refine norm_ (a':=?_) ?_ ?_;rotate_left
     ·show Act.put _ (some 12) _=_
      simp only [Act.put,qSa,qSb,qSc,i64_w,i32_w];rfl
     refine one_ (i:=3) (N:=some 13) #[true,true,true,true,false,false,false,true,false,false] rfl rfl (one_of HT_.1 (by kernel_rfl)) (by decide) (fun K hK=>?_);refine goes_ Try.func37 (by kernel_rfl) rfl #[.agg #[.int .i64 a0_0,.slice A0_1 l0_1.length c0_1],.agg #[.int .i64 t277,.slice Ao29 t278.length co29]] (by rfl) rfl rfl qB50 ?_;with_reducible refine(spec_l01Times.calls k a0_0 _ _ l0_1 t277 _ _ t278 t281 t282 false _ ?side1 ?side2 ?side3 ?side4 A5.1).mono ?_
     (case side1=>repeat(first|exact(Kd.C_below HR0_1.1 HB.1)|(with_reducible refine Kd.C_alloc ?_ _)|(with_reducible refine Kd.C_drewN ?_ _)|(with_reducible refine Kd.C_drew ?_)))
     (case side2=>exact HC0_1.1)
     (case side3=>repeat(first|exact(Kd.R_reads' HO280.1).2.2|(with_reducible refine Kd.C_alloc ?_ _)|(with_reducible refine Kd.C_drewN ?_ _)|(with_reducible refine Kd.C_drew ?_)))
     (case side4=>exact(Kd.R_reads' HO280.1).2.1)
     rintro e w30 ⟨v283,rfl,ho0,hb⟩;refine⟨_,rfl,?_⟩;have n0_:=qAm (Kd.R_elder' qB89 (Kd.R_base ho0) hb);have n1_:=qAm (Kd.R_lower (Kd.R_new' ho0 (Kd.R_lt qB89)) (below_size qB22));have n2_:=qAm (blk_below (g:=gb275) (o:=.cells #[.int .i64 a0_0,.slice A0_1 l0_1.length c0_1] 26 (0,0)) qB73 hb);have n3_:=qAm (blk_below (g:=gb286) (o:=.cells #[.int .i64 0,.slice none 0 0] 26 (0,0)) qB74 hb);have n4_:=qAm (below_step qB22 hb);clear HO280 BK275 BK286 HB;have HO280:=n0_;have HO284:=n1_;have BK275:=n2_;have BK286:=n3_;have HB:=n4_;clear n0_ n1_ n2_ n3_ n4_
     (try clear hb)
     (try clear hb2)
     (try clear hk)
     (try clear hi)
     (try clear ho0)
     refine hK.out _ _ ⟨(blk_cell BK275.1 0).trans rfl,(blk_cell BK275.1 1).trans rfl⟩ (fun hHeld=>?_);clear hK K;refine norm_ (a':=?_) ?_ ?_;rotate_left
     ·show Act.put _ (some 13) _=_
      simp only [Act.put,qSa,qSb,qSc,i64_w,i32_w];rfl
     refine pure_ (i:=4) (N:=some 9) (v:=?_) (a':=?_) #[true,true,true,true,true,false,false,true,false,false] rfl rfl (any_of HT_.1 (by kernel_rfl)) (fun _ _ _ h=>h) (Or.inl ⟨by rfl,?_⟩) ?_ ?_;rotate_left
     ·intro w';go_simp;with_reducible rfl
     rotate_left
     ·simp only [Act.put,qSa,qSb,qSc,i64_w,i32_w];rfl
     refine pure_ (i:=5) (N:=some 14) (v:=?_) (a':=?_) #[true,true,true,true,true,true,false,true,false,false] rfl rfl (any_of HT_.1 (by kernel_rfl)) (fun _ _ _ h=>h) (Or.inl ⟨by rfl,?_⟩) ?_ ?_;rotate_left
     ·intro w';go_simp;with_reducible rfl
     rotate_left
     ·simp only [Act.put,qSa,qSb,qSc,i64_w,i32_w];rfl
     refine pure_ (i:=6) (N:=some 15) (v:=?_) (a':=?_) #[true,true,true,true,true,true,true,true,false,false] rfl rfl (any_of HT_.1 (by kernel_rfl)) (fun _ _ _ h=>h) (Or.inl ⟨by rfl,?_⟩) ?_ ?_;rotate_left
     ·intro w';go_simp;with_reducible rfl
     rotate_left
     ·simp only [Act.put,qSa,qSb,qSc,i64_w,i32_w];rfl
     exact norm_ qB104 (hCont (.slice Ao29 t278.length co29,v283,gb286) _ ⟨hHeld,qB51,qB52,qB73,qB74,GW286.1,GE286.1,NB275_286.1,NB286_275.1,qB22⟩)
   rintro⟨v279,v283,gb286⟩ w31 ⟨hS_,h0_,h1_,h2_,h3_,h4_,h5_,h6_,h7_,h8_⟩;have n0_:Aside0 (Kd.R (Kd.int .i64) 2 w31 w.heap.size (fun k_=>some k_≠(v283:Value).ownBlock) v279 t278):=⟨h0_⟩
   have n1_:Aside0 (Kd.R (Kd.int .i64) 2 w31 w.heap.size (fun k_=>some k_≠(v279:Value).ownBlock) v283 t282):=⟨h1_⟩
   have n2_:Aside0 (w31.heap[gb275]? =some (.cells #[.int .i64 a0_0,.slice A0_1 l0_1.length c0_1] 26 (0,0))):=⟨h2_⟩
   have n3_:Aside0 (w31.heap[gb286]? =some (.cells #[.int .i64 0,.slice none 0 0] 26 (0,0))):=⟨h3_⟩
   have n4_:Aside0 (w.heap.size≤gb286):=⟨h4_⟩
   have n5_:Aside0 (w.heap.size≤gb286):=⟨h5_⟩
   have n6_:Aside0 (gb275≠gb286):=⟨h6_⟩
   have n7_:Aside0 (gb286≠gb275):=⟨h7_⟩
   have n8_:Aside0 (Below w.heap.size w w31):=⟨h8_⟩
   clear BK275 HB h0_ h1_ h2_ h3_ h4_ h5_ h6_ h7_ h8_;have HO280:=n0_;have HO284:=n1_;have BK275:=n2_;have BK286:=n3_;have GW286:=n4_;have GE286:=n5_;have NB275_286:=n6_;have NB286_275:=n7_;have HB:=n8_;clear n0_ n1_ n2_ n3_ n4_ n5_ n6_ n7_ n8_;have hHeld:w31.cell? ⟨gb275,0,none⟩=some (.int .i64 a0_0)∧w31.cell? ⟨gb275,1,none⟩=some (.slice A0_1 l0_1.length c0_1):=hS_;obtain⟨Ao33,co33,eo33⟩:=Kd.R_slice HO284.1
   (first|subst eo33|(injection eo33 with f1_ f2_ f3_;have f4_:=f1_.symm;have f5_:=f3_.symm;clear f1_ f2_ f3_;subst f4_;subst f5_))
   refine norm_ (a':=?_) ?_ ?_;rotate_left
   ·simp only [putAll,Act.put,qSa,qSb,qSc];rfl
   refine one_ (i:=8) (N:=none) #[true,true,true,true,true,true,true,true,true,false] rfl rfl (one_of HT_.1 (by kernel_rfl)) (by decide) (fun K hK=>?_);have hs32:w31.cell? ⟨gb286,0,none⟩=some (.int .i64 0):=(blk_cell BK286.1 0).trans rfl;have hfs32:=blk_frozen BK286.1 0;have hns32_0:=NB275_286.1;have hms32_0:=NB286_275.1;have hs34:w31.cell? ⟨gb286,1,none⟩=some (.slice none 0 0):=(blk_cell BK286.1 1).trans rfl;have hfs34:=blk_frozen BK286.1 1;have hns34_0:=NB275_286.1;have hms34_0:=NB286_275.1;refine skip_ (w1:=?_) (by rfl) rfl ?_ ?_;rotate_left
   ·go_simp;rfl
   refine hK.out _ _ ⟨((cell_far (p:=⟨gb286,_,none⟩) NB275_286.1 _).trans (((cell_far (p:=⟨gb286,_,none⟩) NB275_286.1 _).trans (hHeld.1)))),((cell_far (p:=⟨gb286,_,none⟩) NB275_286.1 _).trans (((cell_far (p:=⟨gb286,_,none⟩) NB275_286.1 _).trans (hHeld.2))))⟩ (fun hHeld=>?_);clear hK K;refine pure_ (i:=9) (N:=some 5) (v:=?_) (a':=?_) #[true,true,true,true,true,true,true,true,true,true] rfl rfl (any_of HT_.1 (by kernel_rfl)) (fun _ _ _ h=>h) (Or.inl ⟨by rfl,?_⟩) ?_ ?_;rotate_left
   ·intro w';go_simp;with_reducible rfl
   rotate_left
   ·simp only [Act.put,qSa,qSb,qSc,i64_w,i32_w];rfl
   refine done_ (done_of HT_.1 (by kernel_rfl)) ?_;try go_wp2
   go_ret2;exact⟨by first|rfl|(simp [errW_none,errW_some] <;> rfl)|(simp [*,errW_none,errW_some] <;> rfl),by repeat(first|(with_reducible first|exact HB.1|apply below_alloc|apply pw_below_drewN|apply below_drew1|refine below_set ?_ GE275.1|refine below_set ?_ GE286.1)|exact HB.1)⟩
 ·replace c3:=Bool.eq_false_iff.mpr c3;subst c3;have H1:(some (0,1))=some (r1,r2):=by rw [if_neg (show ¬(false=true) by decide)] at H;exact H
  clear H;have H:=H1;clear H1;simp only [Option.some.injEq,Prod.mk.injEq] at H;obtain⟨rfl,rfl⟩:=H;go_enter Try.func20,Try.ntmps20;go_wp2_with (first|((with_reducible refine gate_dst (N:=1) rfl ?_);refine box_event ?hg (N:=1) ?hd (cs:=#[.int .i64 a0_0,.slice A0_1 l0_1.length c0_1]) (t:=26) ?hr ?_;(case hd=>rfl);(case hg=>rfl);(case hr=>first|(go_simp;done)|(go_simp;rfl));intro gb275 hg w35 hbox hb;have n0_:=qAm (below_step qB53 hb);have n1_:=qAm (hbox);have n2_:=qAm ((by rw [hg];exact(below_size qB53):w.heap.size≤gb275));have n3_:=qAm ((by rw [hg];exact(below_size qB53):w.heap.size≤gb275));clear HB;have HB:=n0_;have BK275:=n1_;have GW275:=n2_;have GE275:=n3_;clear n0_ n1_ n2_ n3_;clear hb hbox hg;have hcz36_0:w35.cell? ⟨gb275,0,none⟩=some (.int .i64 a0_0):=(blk_cell BK275.1 0).trans rfl;have hcz36_1:w35.cell? ⟨gb275,1,none⟩=some (.slice A0_1 l0_1.length c0_1):=(blk_cell BK275.1 1).trans rfl;have hfz36_0:=blk_frozen BK275.1 0;have hfz36_1:=blk_frozen BK275.1 1)|((with_reducible refine gate_callee (f:=43) rfl ?_);refine goesL_ (some 7) rfl rfl Try.func43 (by kernel_rfl) rfl #[.agg #[.int .i64 a0_0,.slice A0_1 l0_1.length c0_1]] rfl qB50 ?_;(with_reducible refine(spec_l01Is.calls k a0_0 _ _ l0_1 false _ ?side1 ?side2 A2.1).mono ?_);(case side1=>repeat(first|exact(Kd.C_below HR0_1.1 HB.1)|(with_reducible refine Kd.C_alloc ?_ _)|(with_reducible refine Kd.C_drewN ?_ _)|(with_reducible refine Kd.C_drew ?_)));(case side2=>exact HC0_1.1);rintro e w37 ⟨rfl,hb⟩;refine⟨_,rfl,?_⟩;have n0_:=qAm (blk_below (g:=gb275) (o:=.cells #[.int .i64 a0_0,.slice A0_1 l0_1.length c0_1] 26 (0,0)) qB73 hb);have n1_:=qAm (below_step qB37 hb);clear BK275;clear HB;have BK275:=n0_;have HB:=n1_;clear n0_ n1_;(try clear hb);(try clear hb2);(try clear hk);(try clear hi)));go_ret2;exact⟨by first|rfl|(simp [errW_none,errW_some] <;> rfl)|(simp [*,errW_none,errW_some] <;> rfl),by repeat(first|(with_reducible first|exact HB.1|apply below_alloc|apply pw_below_drewN|apply below_drew1|refine below_set ?_ GE275.1)|exact HB.1)⟩

end Go.Proofs.Ythljmbobccaalaa.PFnExactSizeOf
