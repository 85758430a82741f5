/- The functions that the law reaches, as plain functions, each with the proof that the program comes to it; no condition. Written by a program of this session (wip/mp.py) over the printing of the kit; what is marked HAND is told by hand. -/
import Derived.Test.YthljmbobccaalaaPFnExactPowerCyclox0
import Derived.Test.YthljmbobccaalaaPFnExactPowerCyclox1
import Derived.Test.YthljmbobccaalaaPFnExactPowerCyclox2
import Derived.Test.YthljmbobccaalaaPFnExactPowerCyclox4
import Derived.Test.YthljmbobccaalaaPFnExactPowerCyclox5
import Derived.Test.YthljmbobccaalaaPFnExactPowerCyclox6
namespace Go.Proofs.Ythljmbobccaalaa.PFnExactPowerCyclo
open Go.RowKit Go.Proofs.YthljmbobccaalaaW.PrintWords Go.Proofs.YthljmbobccaalaaW.PrintLast Go.Proofs.YthljmbobccaalaaW.PrintMore
attribute [local go_sem] max2_int min2_int max_two min_two max_three min_three max_four min_four   -- for this text's walks alone
set_option linter.unusedVariables false
set_option linter.unusedSimpArgs false

/-! ### spec_l01Is: function 43 -/
def spec_l01Is.f (k:Nat) (a0_0:Int) (l0_1:List Int):Option (Bool):=(spec_l01In.f a0_0 1 16).bind fun t234=>(if t234=true then ((spec_l01Phi.f k a0_0).bind fun t235=>(if (l0_1.length:Int)=t235 then ((spec_l01Fits.f k a0_0 l0_1).bind fun t236=>(some t236)) else (some false))) else (some false))
theorem spec_l01Is.mono:∀a0 a1 k,LeO (spec_l01Is.f k a0 a1) (spec_l01Is.f (k+1) a0 a1):=by
 intro a0 a1 k;unfold spec_l01Is.f;repeat' first
   |(with_reducible exact spec_l01Fits.mono _ _ _)
   |(with_reducible exact spec_l01Phi.mono _ _)
   |(with_reducible exact LeO.refl _)
   |(with_reducible exact LeO.none _)
   |(with_reducible refine LeO.ite ?_ ?_)
   |(with_reducible refine LeO.bind ?_ (fun _=>?_))
   |exact spec_l01Fits.mono _ _ _
   |exact spec_l01Phi.mono _ _
   |exact LeO.none _
   |refine LeO.ite ?_ ?_
   |refine LeO.bind ?_ (fun _=>?_)
def spec_l01Is.T1:Bool×List (List Nat×List Nat):=(true,[([],[]),([0],[0]),([1],[1]),([2,2],[2]),([3],[3]),([4,3],[3,4]),([5,3],[3,5]),([3],[3]),([7,3],[3,7]),([8,3,3],[3,8]),([6,9,3],[3,6,9]),([3,10],[3,10]),([11,9],[11]),([12],[12]),([13,12,12],[12,13]),([12,14],[12,14]),([15,14,0,1,2,3,4,5,6,7,8,9,10,11,12,13,14,15],[15])])
def spec_l01Is.B1:List Nat:=[0,1,3,7,15,31,63,15,143,399,1023,2047,4095,8191,16383,32767,65535]
theorem spec_l01Is.tab1:rtab .any (opsOf Try.f43 1)=spec_l01Is.T1:=by kernel_rfl
theorem spec_l01Is.bits1:waitsOk spec_l01Is.T1.2 spec_l01Is.B1=true:=by kernel_rfl
set_option maxHeartbeats 8000000 in
set_option maxRecDepth 100000 in
theorem spec_l01Is.calls (k:Nat) (a0_0:Int) (A0_1:Option Addr) (c0_1:Nat) (l0_1:List Int) (r:Bool) (w:World) (hr0_1:Kd.C (Kd.int .i64) w A0_1 l0_1.length l0_1) (hc0_1:l0_1.length≤c0_1) (h:spec_l01Is.f k a0_0 l0_1=some r):
  Calls Try.prog 43 #[.agg #[.int .i64 a0_0,.slice A0_1 l0_1.length c0_1]] w fun e w'=>e=.returned (.bool r)∧Below w.heap.size w w':=by
 have hu26:=Try.underlying26;have HR0_1:=qAm hr0_1;have HC0_1:=qAm hc0_1;clear hr0_1 hc0_1;have HB:=qAm (Below.refl w.heap.size w);have H:((spec_l01In.f a0_0 1 16).bind fun t234=>(if t234=true then ((spec_l01Phi.f k a0_0).bind fun t235=>(if (l0_1.length:Int)=t235 then ((spec_l01Fits.f k a0_0 l0_1).bind fun t236=>(some t236)) else (some false))) else (some false)))=some r:=h;clear h;replace H:=qOb H;obtain⟨t234,A20,H⟩:=H;replace H:(if t234=true then ((spec_l01Phi.f k a0_0).bind fun t235=>(if (l0_1.length:Int)=t235 then ((spec_l01Fits.f k a0_0 l0_1).bind fun t236=>(some t236)) else (some false))) else (some false))=some r:=H;have A2:=qAm A20;clear A20
 by_cases c3:t234=true
 ·subst c3;have H1:((spec_l01Phi.f k a0_0).bind fun t235=>(if (l0_1.length:Int)=t235 then ((spec_l01Fits.f k a0_0 l0_1).bind fun t236=>(some t236)) else (some false)))=some r:=by rw [if_pos rfl] at H;exact H
  clear H;have H:=H1;clear H1;replace H:=qOb H;obtain⟨t235,A40,H⟩:=H;replace H:(if (l0_1.length:Int)=t235 then ((spec_l01Fits.f k a0_0 l0_1).bind fun t236=>(some t236)) else (some false))=some r:=H;have A4:=qAm A40;clear A40
  by_cases c5:(l0_1.length:Int)=t235
  ·rw [if_pos c5] at H;have c5b0:((l0_1.length:Int)==t235)=true:=beq_iff_eq.mpr c5;have c5b1:((l0_1.length:Int) !=t235)=false:=bne_eq_false_iff_eq.mpr c5;clear c5;replace H:=qOb H;obtain⟨t236,A60,H⟩:=H;replace H:(some t236)=some r:=H;have A6:=qAm A60;clear A60;obtain rfl:=Option.some.inj H;go_enter Try.func43,Try.ntmps43;try go_wp2_with (first|((with_reducible refine gate_dst (N:=1) rfl ?_);(try(refine gate_guard (by rfl) ?_;dsimp only));refine box_event ?hg (N:=1) ?hd (cs:=#[.int .i64 a0_0,.slice A0_1 l0_1.length c0_1]) (t:=26) ?hr ?_;(case hd=>rfl);(case hg=>rfl);(case hr=>first|(go_simp;done)|(go_simp;rfl));intro gb233 hg w7 hbox hb;have n0_:=qAm (below_step qB61 hb);have n1_:=qAm (hbox);have n2_:=qAm ((by rw [hg];exact(below_size qB61):w.heap.size≤gb233));have n3_:=qAm ((by rw [hg];exact(below_size qB61):w.heap.size≤gb233));clear HB;have HB:=n0_;have BK233:=n1_;have GW233:=n2_;have GE233:=n3_;clear n0_ n1_ n2_ n3_;clear hb hbox hg))
   have n0_:=qAm (blk_drew BK233.1);have n1_:=qAm (below_drew1 HB.1);clear BK233 HB;have BK233:=n0_;have HB:=n1_;clear n0_ n1_;refine start_ (n:=17) (S:=fun w'=>w'.cell? ⟨gb233,0,none⟩=some (.int .i64 a0_0)∧w'.cell? ⟨gb233,1,none⟩=some (.slice A0_1 l0_1.length c0_1)) (ds:=[]) #[false,false,false,false,false,false,false,false,false,false,false,false,false,false,false,false,false] (by kernel_rfl) rfl rfl ⟨(blk_cell BK233.1 0).trans rfl,(blk_cell BK233.1 1).trans rfl⟩ (fun hHeld=>?_);refine with_tabW spec_l01Is.tab1 spec_l01Is.bits1 (fun HT_ HW_=>?_);generalize w7.drew=w8 at BK233 HB hHeld ⊢;refine pure_ (i:=0) (N:=some 3) (v:=?_) (a':=?_) #[true,false,false,false,false,false,false,false,false,false,false,false,false,false,false,false,false] rfl rfl (any_of HT_.1 (by kernel_rfl)) (fun _ _ _ h=>h) (Or.inl ⟨by rfl,?_⟩) ?_ ?_;rotate_left
   ·intro w';go_simp;with_reducible rfl
   rotate_left
   ·simp only [Act.put,qSa,qSb,qSc,i64_w,i32_w];rfl
   refine take_ (i:=1) (N:=some 4) (v:=?_) (a':=?_) #[true,true,false,false,false,false,false,false,false,false,false,false,false,false,false,false,false] rfl rfl (take_ofW HT_.1 HW_.1 (by kernel_rfl)) (fun _ _ _ h=>h) (Or.inl ⟨by rfl,?_⟩) hHeld ?_ ?_;rotate_left
   ·rintro w' ⟨s0,s1⟩;go_simp;with_reducible rfl
   rotate_left
   ·simp only [Act.put,qSa,qSb,qSc,i64_w,i32_w];rfl
   refine one_ (i:=2) (N:=some 5) #[true,true,true,false,false,false,false,false,false,false,false,false,false,false,false,false,false] rfl rfl (one_of HT_.1 (by kernel_rfl)) (by decide) (fun K hK=>?_);refine goes_ Try.func44 (by kernel_rfl) rfl #[.int .i64 a0_0,.int .i64 1,.int .i64 16] (by rfl) rfl rfl qB60 ?_;with_reducible refine(spec_l01In.calls a0_0 1 16 true _ A2.1).mono ?_
   rintro e w' ⟨rfl,⟨nd,rfl⟩⟩;refine⟨_,rfl,?_⟩;refine hK.out _ _ ⟨(blk_cell BK233.1 0).trans rfl,(blk_cell BK233.1 1).trans rfl⟩ (fun hHeld=>?_);clear hK K;refine norm_ (a':=?_) ?_ ?_;rotate_left
   ·show Act.put _ (some 5) _=_
    simp only [Act.put,qSa,qSb,qSc,i64_w,i32_w];rfl
   refine pure_ (i:=3) (N:=some 6) (v:=?_) (a':=?_) #[true,true,true,true,false,false,false,false,false,false,false,false,false,false,false,false,false] rfl rfl (any_of HT_.1 (by kernel_rfl)) (fun _ _ _ h=>h) (Or.inl ⟨by rfl,?_⟩) ?_ ?_;rotate_left
   ·intro w';go_simp;with_reducible rfl
   rotate_left
   ·simp only [Act.put,qSa,qSb,qSc,i64_w,i32_w];rfl
   refine pure_ (i:=4) (N:=some 7) (v:=?_) (a':=?_) #[true,true,true,true,true,false,false,false,false,false,false,false,false,false,false,false,false] rfl rfl (any_of HT_.1 (by kernel_rfl)) (fun _ _ _ h=>h) (Or.inl ⟨by rfl,?_⟩) ?_ ?_;rotate_left
   ·intro w';go_simp;with_reducible rfl
   rotate_left
   ·simp only [Act.put,qSa,qSb,qSc,i64_w,i32_w];rfl
   refine pure_ (i:=7) (N:=some 10) (v:=?_) (a':=?_) #[true,true,true,true,true,false,false,true,false,false,false,false,false,false,false,false,false] rfl rfl (any_of HT_.1 (by kernel_rfl)) (fun _ _ _ h=>h) (Or.inl ⟨by rfl,?_⟩) ?_ ?_;rotate_left
   ·intro w';go_simp;with_reducible rfl
   rotate_left
   ·simp only [Act.put,qSa,qSb,qSc,i64_w,i32_w];rfl
   refine take_ (i:=5) (N:=some 8) (v:=?_) (a':=?_) #[true,true,true,true,true,true,false,true,false,false,false,false,false,false,false,false,false] rfl rfl (take_ofW HT_.1 HW_.1 (by kernel_rfl)) (fun _ _ _ h=>h) (Or.inl ⟨by rfl,?_⟩) hHeld ?_ ?_;rotate_left
   ·rintro w' ⟨s0,s1⟩;go_simp;with_reducible rfl
   rotate_left
   ·simp only [Act.put,qSa,qSb,qSc,i64_w,i32_w];rfl
   refine pure_ (i:=6) (N:=some 9) (v:=?_) (a':=?_) #[true,true,true,true,true,true,true,true,false,false,false,false,false,false,false,false,false] rfl rfl (any_of HT_.1 (by kernel_rfl)) (fun _ _ _ h=>h) (Or.inl ⟨by rfl,?_⟩) ?_ ?_;rotate_left
   ·intro w';go_simp;with_reducible rfl
   rotate_left
   ·simp only [Act.put,qSa,qSb,qSc,i64_w,i32_w];rfl
   refine take_ (i:=8) (N:=some 11) (v:=?_) (a':=?_) #[true,true,true,true,true,true,true,true,true,false,false,false,false,false,false,false,false] rfl rfl (take_ofW HT_.1 HW_.1 (by kernel_rfl)) (fun _ _ _ h=>h) (Or.inl ⟨by rfl,?_⟩) hHeld ?_ ?_;rotate_left
   ·rintro w' ⟨s0,s1⟩;go_simp;with_reducible rfl
   rotate_left
   ·simp only [Act.put,qSa,qSb,qSc,i64_w,i32_w];rfl
   refine one_ (i:=9) (N:=some 12) #[true,true,true,true,true,true,true,true,true,true,false,false,false,false,false,false,false] rfl rfl (one_of HT_.1 (by kernel_rfl)) (by decide) (fun K hK=>?_);refine goes_ Try.func69 (by kernel_rfl) rfl #[.int .i64 a0_0] (by rfl) rfl rfl qB60 ?_;with_reducible refine(spec_l01Phi.calls k a0_0 t235 _ A4.1).mono ?_
   rintro e w9 ⟨rfl,hb⟩;refine⟨_,rfl,?_⟩;have n0_:=qAm (blk_below (g:=gb233) (o:=.cells #[.int .i64 a0_0,.slice A0_1 l0_1.length c0_1] 26 (0,0)) qB76 hb);have n1_:=qAm (below_step qB43 hb);clear BK233 HB;have BK233:=n0_;have HB:=n1_;clear n0_ n1_
   (try clear hb)
   (try clear hb2)
   (try clear hk)
   (try clear hi)
   refine hK.out _ _ ⟨(blk_cell BK233.1 0).trans rfl,(blk_cell BK233.1 1).trans rfl⟩ (fun hHeld=>?_);clear hK K;refine norm_ (a':=?_) ?_ ?_;rotate_left
   ·show Act.put _ (some 12) _=_
    simp only [Act.put,qSa,qSb,qSc,i64_w,i32_w];rfl
   refine pure_ (i:=10) (N:=some 13) (v:=?_) (a':=?_) #[true,true,true,true,true,true,true,true,true,true,true,false,false,false,false,false,false] rfl rfl (any_of HT_.1 (by kernel_rfl)) (fun _ _ _ h=>h) (Or.inl ⟨by rfl,?_⟩) ?_ ?_;rotate_left
   ·intro w';go_simp;with_reducible rfl
   rotate_left
   ·simp only [Act.put,qSa,qSb,qSc,i64_w,i32_w];rfl
   refine pure_ (i:=11) (N:=some 14) (v:=?_) (a':=?_) #[true,true,true,true,true,true,true,true,true,true,true,true,false,false,false,false,false] rfl rfl (any_of HT_.1 (by kernel_rfl)) (fun _ _ _ h=>h) (Or.inl ⟨by rfl,?_⟩) ?_ ?_;rotate_left
   ·intro w';go_simp;with_reducible rfl
   rotate_left
   ·simp only [Act.put,qSa,qSb,qSc,i64_w,i32_w];rfl
   refine pure_ (i:=12) (N:=some 15) (v:=?_) (a':=?_) #[true,true,true,true,true,true,true,true,true,true,true,true,true,false,false,false,false] rfl rfl (any_of HT_.1 (by kernel_rfl)) (fun _ _ _ h=>h) (Or.inl ⟨by rfl,?_⟩) ?_ ?_;rotate_left
   ·intro w';go_simp;with_reducible rfl
   rotate_left
   ·simp only [Act.put,qSa,qSb,qSc,i64_w,i32_w];rfl
   refine take_ (i:=13) (N:=some 16) (v:=?_) (a':=?_) #[true,true,true,true,true,true,true,true,true,true,true,true,true,true,false,false,false] rfl rfl (take_ofW HT_.1 HW_.1 (by kernel_rfl)) (fun _ _ _ h=>h) (Or.inl ⟨by rfl,?_⟩) hHeld ?_ ?_;rotate_left
   ·rintro w' ⟨s0,s1⟩;go_simp;with_reducible rfl
   rotate_left
   ·simp only [Act.put,qSa,qSb,qSc,i64_w,i32_w];rfl
   refine one_ (i:=14) (N:=some 17) #[true,true,true,true,true,true,true,true,true,true,true,true,true,true,true,false,false] rfl rfl (one_of HT_.1 (by kernel_rfl)) (by decide) (fun K hK=>?_);refine goes_ Try.func64 (by kernel_rfl) rfl #[.agg #[.int .i64 a0_0,.slice A0_1 l0_1.length c0_1]] (by rfl) rfl rfl qB60 ?_;with_reducible refine(spec_l01Fits.calls k a0_0 _ _ l0_1 t236 _ ?side1 ?side2 A6.1).mono ?_
   (case side1=>repeat(first|exact(Kd.C_below HR0_1.1 HB.1)|(with_reducible refine Kd.C_alloc ?_ _)|(with_reducible refine Kd.C_drewN ?_ _)|(with_reducible refine Kd.C_drew ?_)))
   (case side2=>exact HC0_1.1)
   rintro e w10 ⟨rfl,hb⟩;refine⟨_,rfl,?_⟩;have n0_:=qAm (blk_below (g:=gb233) (o:=.cells #[.int .i64 a0_0,.slice A0_1 l0_1.length c0_1] 26 (0,0)) qB76 hb);have n1_:=qAm (below_step qB43 hb);clear BK233 HB;have BK233:=n0_;have HB:=n1_;clear n0_ n1_
   (try clear hb)
   (try clear hb2)
   (try clear hk)
   (try clear hi)
   refine hK.out _ _ ⟨(blk_cell BK233.1 0).trans rfl,(blk_cell BK233.1 1).trans rfl⟩ (fun hHeld=>?_);clear hK K;refine norm_ (a':=?_) ?_ ?_;rotate_left
   ·show Act.put _ (some 17) _=_
    simp only [Act.put,qSa,qSb,qSc,i64_w,i32_w];rfl
   refine pure_ (i:=15) (N:=some 18) (v:=?_) (a':=?_) #[true,true,true,true,true,true,true,true,true,true,true,true,true,true,true,true,false] rfl rfl (any_of HT_.1 (by kernel_rfl)) (fun _ _ _ h=>h) (Or.inl ⟨by rfl,?_⟩) ?_ ?_;rotate_left
   ·intro w';go_simp;with_reducible rfl
   rotate_left
   ·simp only [Act.put,qSa,qSb,qSc,i64_w,i32_w];rfl
   refine pure_ (i:=16) (N:=some 2) (v:=?_) (a':=?_) #[true,true,true,true,true,true,true,true,true,true,true,true,true,true,true,true,true] rfl rfl (any_of HT_.1 (by kernel_rfl)) (fun _ _ _ h=>h) (Or.inl ⟨by rfl,?_⟩) ?_ ?_;rotate_left
   ·intro w';go_simp;with_reducible rfl
   rotate_left
   ·simp only [Act.put,qSa,qSb,qSc,i64_w,i32_w];rfl
   refine done_ (done_of HT_.1 (by kernel_rfl)) ?_;try go_wp2
   go_ret;exact⟨by first|rfl|(simp [errW_none,errW_some] <;> rfl)|(simp [*,errW_none,errW_some] <;> rfl),by repeat(first|(with_reducible first|exact HB.1|apply below_alloc|apply pw_below_drewN|apply below_drew1|refine below_set ?_ GE233.1)|exact HB.1)⟩
  ·rw [if_neg c5] at H;have c5b0:((l0_1.length:Int)==t235)=false:=beq_eq_false_iff_ne.mpr c5;have c5b1:((l0_1.length:Int) !=t235)=true:=bne_iff_ne.mpr c5;obtain rfl:=Option.some.inj H;go_enter Try.func43,Try.ntmps43;try go_wp2_with (first|((with_reducible refine gate_dst (N:=1) rfl ?_);(try(refine gate_guard (by rfl) ?_;dsimp only));refine box_event ?hg (N:=1) ?hd (cs:=#[.int .i64 a0_0,.slice A0_1 l0_1.length c0_1]) (t:=26) ?hr ?_;(case hd=>rfl);(case hg=>rfl);(case hr=>first|(go_simp;done)|(go_simp;rfl));intro gb233 hg w11 hbox hb;have n0_:=qAm (below_step qB61 hb);have n1_:=qAm (hbox);have n2_:=qAm ((by rw [hg];exact(below_size qB61):w.heap.size≤gb233));have n3_:=qAm ((by rw [hg];exact(below_size qB61):w.heap.size≤gb233));clear HB;have HB:=n0_;have BK233:=n1_;have GW233:=n2_;have GE233:=n3_;clear n0_ n1_ n2_ n3_;clear hb hbox hg))
   have n0_:=qAm (blk_drew BK233.1);have n1_:=qAm (below_drew1 HB.1);clear BK233 HB;have BK233:=n0_;have HB:=n1_;clear n0_ n1_;refine start_ (n:=17) (S:=fun w'=>w'.cell? ⟨gb233,0,none⟩=some (.int .i64 a0_0)∧w'.cell? ⟨gb233,1,none⟩=some (.slice A0_1 l0_1.length c0_1)) (ds:=[]) #[false,false,false,false,false,false,false,false,false,false,false,false,false,false,false,false,false] (by kernel_rfl) rfl rfl ⟨(blk_cell BK233.1 0).trans rfl,(blk_cell BK233.1 1).trans rfl⟩ (fun hHeld=>?_);refine with_tabW spec_l01Is.tab1 spec_l01Is.bits1 (fun HT_ HW_=>?_);generalize w11.drew=w12 at BK233 HB hHeld ⊢;refine pure_ (i:=0) (N:=some 3) (v:=?_) (a':=?_) #[true,false,false,false,false,false,false,false,false,false,false,false,false,false,false,false,false] rfl rfl (any_of HT_.1 (by kernel_rfl)) (fun _ _ _ h=>h) (Or.inl ⟨by rfl,?_⟩) ?_ ?_;rotate_left
   ·intro w';go_simp;with_reducible rfl
   rotate_left
   ·simp only [Act.put,qSa,qSb,qSc,i64_w,i32_w];rfl
   refine take_ (i:=1) (N:=some 4) (v:=?_) (a':=?_) #[true,true,false,false,false,false,false,false,false,false,false,false,false,false,false,false,false] rfl rfl (take_ofW HT_.1 HW_.1 (by kernel_rfl)) (fun _ _ _ h=>h) (Or.inl ⟨by rfl,?_⟩) hHeld ?_ ?_;rotate_left
   ·rintro w' ⟨s0,s1⟩;go_simp;with_reducible rfl
   rotate_left
   ·simp only [Act.put,qSa,qSb,qSc,i64_w,i32_w];rfl
   refine one_ (i:=2) (N:=some 5) #[true,true,true,false,false,false,false,false,false,false,false,false,false,false,false,false,false] rfl rfl (one_of HT_.1 (by kernel_rfl)) (by decide) (fun K hK=>?_);refine goes_ Try.func44 (by kernel_rfl) rfl #[.int .i64 a0_0,.int .i64 1,.int .i64 16] (by rfl) rfl rfl qB60 ?_;with_reducible refine(spec_l01In.calls a0_0 1 16 true _ A2.1).mono ?_
   rintro e w' ⟨rfl,⟨nd,rfl⟩⟩;refine⟨_,rfl,?_⟩;refine hK.out _ _ ⟨(blk_cell BK233.1 0).trans rfl,(blk_cell BK233.1 1).trans rfl⟩ (fun hHeld=>?_);clear hK K;refine norm_ (a':=?_) ?_ ?_;rotate_left
   ·show Act.put _ (some 5) _=_
    simp only [Act.put,qSa,qSb,qSc,i64_w,i32_w];rfl
   refine pure_ (i:=3) (N:=some 6) (v:=?_) (a':=?_) #[true,true,true,true,false,false,false,false,false,false,false,false,false,false,false,false,false] rfl rfl (any_of HT_.1 (by kernel_rfl)) (fun _ _ _ h=>h) (Or.inl ⟨by rfl,?_⟩) ?_ ?_;rotate_left
   ·intro w';go_simp;with_reducible rfl
   rotate_left
   ·simp only [Act.put,qSa,qSb,qSc,i64_w,i32_w];rfl
   refine pure_ (i:=4) (N:=some 7) (v:=?_) (a':=?_) #[true,true,true,true,true,false,false,false,false,false,false,false,false,false,false,false,false] rfl rfl (any_of HT_.1 (by kernel_rfl)) (fun _ _ _ h=>h) (Or.inl ⟨by rfl,?_⟩) ?_ ?_;rotate_left
   ·intro w';go_simp;with_reducible rfl
   rotate_left
   ·simp only [Act.put,qSa,qSb,qSc,i64_w,i32_w];rfl
   refine pure_ (i:=7) (N:=some 10) (v:=?_) (a':=?_) #[true,true,true,true,true,false,false,true,false,false,false,false,false,false,false,false,false] rfl rfl (any_of HT_.1 (by kernel_rfl)) (fun _ _ _ h=>h) (Or.inl ⟨by rfl,?_⟩) ?_ ?_;rotate_left
   ·intro w';go_simp;with_reducible rfl
   rotate_left
   ·simp only [Act.put,qSa,qSb,qSc,i64_w,i32_w];rfl
   refine take_ (i:=5) (N:=some 8) (v:=?_) (a':=?_) #[true,true,true,true,true,true,false,true,false,false,false,false,false,false,false,false,false] rfl rfl (take_ofW HT_.1 HW_.1 (by kernel_rfl)) (fun _ _ _ h=>h) (Or.inl ⟨by rfl,?_⟩) hHeld ?_ ?_;rotate_left
   ·rintro w' ⟨s0,s1⟩;go_simp;with_reducible rfl
   rotate_left
   ·simp only [Act.put,qSa,qSb,qSc,i64_w,i32_w];rfl
   refine pure_ (i:=6) (N:=some 9) (v:=?_) (a':=?_) #[true,true,true,true,true,true,true,true,false,false,false,false,false,false,false,false,false] rfl rfl (any_of HT_.1 (by kernel_rfl)) (fun _ _ _ h=>h) (Or.inl ⟨by rfl,?_⟩) ?_ ?_;rotate_left
   ·intro w';go_simp;with_reducible rfl
   rotate_left
   ·simp only [Act.put,qSa,qSb,qSc,i64_w,i32_w];rfl
   refine take_ (i:=8) (N:=some 11) (v:=?_) (a':=?_) #[true,true,true,true,true,true,true,true,true,false,false,false,false,false,false,false,false] rfl rfl (take_ofW HT_.1 HW_.1 (by kernel_rfl)) (fun _ _ _ h=>h) (Or.inl ⟨by rfl,?_⟩) hHeld ?_ ?_;rotate_left
   ·rintro w' ⟨s0,s1⟩;go_simp;with_reducible rfl
   rotate_left
   ·simp only [Act.put,qSa,qSb,qSc,i64_w,i32_w];rfl
   refine one_ (i:=9) (N:=some 12) #[true,true,true,true,true,true,true,true,true,true,false,false,false,false,false,false,false] rfl rfl (one_of HT_.1 (by kernel_rfl)) (by decide) (fun K hK=>?_);refine goes_ Try.func69 (by kernel_rfl) rfl #[.int .i64 a0_0] (by rfl) rfl rfl qB60 ?_;with_reducible refine(spec_l01Phi.calls k a0_0 t235 _ A4.1).mono ?_
   rintro e w13 ⟨rfl,hb⟩;refine⟨_,rfl,?_⟩;have n0_:=qAm (blk_below (g:=gb233) (o:=.cells #[.int .i64 a0_0,.slice A0_1 l0_1.length c0_1] 26 (0,0)) qB76 hb);have n1_:=qAm (below_step qB43 hb);clear BK233 HB;have BK233:=n0_;have HB:=n1_;clear n0_ n1_
   (try clear hb)
   (try clear hb2)
   (try clear hk)
   (try clear hi)
   refine hK.out _ _ ⟨(blk_cell BK233.1 0).trans rfl,(blk_cell BK233.1 1).trans rfl⟩ (fun hHeld=>?_);clear hK K;refine norm_ (a':=?_) ?_ ?_;rotate_left
   ·show Act.put _ (some 12) _=_
    simp only [Act.put,qSa,qSb,qSc,i64_w,i32_w];rfl
   refine pure_ (i:=10) (N:=some 13) (v:=?_) (a':=?_) #[true,true,true,true,true,true,true,true,true,true,true,false,false,false,false,false,false] rfl rfl (any_of HT_.1 (by kernel_rfl)) (fun _ _ _ h=>h) (Or.inl ⟨by rfl,?_⟩) ?_ ?_;rotate_left
   ·intro w';go_simp;with_reducible rfl
   rotate_left
   ·simp only [Act.put,qSa,qSb,qSc,i64_w,i32_w];rfl
   refine pure_ (i:=11) (N:=some 14) (v:=?_) (a':=?_) #[true,true,true,true,true,true,true,true,true,true,true,true,false,false,false,false,false] rfl rfl (any_of HT_.1 (by kernel_rfl)) (fun _ _ _ h=>h) (Or.inl ⟨by rfl,?_⟩) ?_ ?_;rotate_left
   ·intro w';go_simp;with_reducible rfl
   rotate_left
   ·simp only [Act.put,qSa,qSb,qSc,i64_w,i32_w];rfl
   refine pure_ (i:=12) (N:=some 15) (v:=?_) (a':=?_) #[true,true,true,true,true,true,true,true,true,true,true,true,true,false,false,false,false] rfl rfl (any_of HT_.1 (by kernel_rfl)) (fun _ _ _ h=>h) (Or.inl ⟨by rfl,?_⟩) ?_ ?_;rotate_left
   ·intro w';go_simp;with_reducible rfl
   rotate_left
   ·simp only [Act.put,qSa,qSb,qSc,i64_w,i32_w];rfl
   refine pure_ (i:=13) (N:=some 16) (v:=undef) (a':=?_) #[true,true,true,true,true,true,true,true,true,true,true,true,true,true,false,false,false] rfl rfl (any_of HT_.1 (by kernel_rfl)) (fun _ _ _ h=>h) (Or.inr ⟨by rfl,rfl⟩) ?_ ?_;rotate_left
   ·simp only [Act.put,qSa,qSb,qSc,i64_w,i32_w];rfl
   refine pure_ (i:=14) (N:=some 17) (v:=undef) (a':=?_) #[true,true,true,true,true,true,true,true,true,true,true,true,true,true,true,false,false] rfl rfl (any_of HT_.1 (by kernel_rfl)) (fun _ _ _ h=>h) (Or.inr ⟨by rfl,rfl⟩) ?_ ?_;rotate_left
   ·simp only [Act.put,qSa,qSb,qSc,i64_w,i32_w];rfl
   refine pure_ (i:=15) (N:=some 18) (v:=?_) (a':=?_) #[true,true,true,true,true,true,true,true,true,true,true,true,true,true,true,true,false] rfl rfl (any_of HT_.1 (by kernel_rfl)) (fun _ _ _ h=>h) (Or.inl ⟨by rfl,?_⟩) ?_ ?_;rotate_left
   ·intro w';go_simp;with_reducible rfl
   rotate_left
   ·simp only [Act.put,qSa,qSb,qSc,i64_w,i32_w];rfl
   refine pure_ (i:=16) (N:=some 2) (v:=?_) (a':=?_) #[true,true,true,true,true,true,true,true,true,true,true,true,true,true,true,true,true] rfl rfl (any_of HT_.1 (by kernel_rfl)) (fun _ _ _ h=>h) (Or.inl ⟨by rfl,?_⟩) ?_ ?_;rotate_left
   ·intro w';go_simp;with_reducible rfl
   rotate_left
   ·simp only [Act.put,qSa,qSb,qSc,i64_w,i32_w];rfl
   refine done_ (done_of HT_.1 (by kernel_rfl)) ?_;try go_wp2
   go_ret;exact⟨by first|rfl|(simp [errW_none,errW_some] <;> rfl)|(simp [*,errW_none,errW_some] <;> rfl),by repeat(first|(with_reducible first|exact HB.1|apply below_alloc|apply pw_below_drewN|apply below_drew1|refine below_set ?_ GE233.1)|exact HB.1)⟩
 ·replace c3:=Bool.eq_false_iff.mpr c3;subst c3;have H1:(some false)=some r:=by rw [if_neg (show ¬(false=true) by decide)] at H;exact H
  clear H;have H:=H1;clear H1;obtain rfl:=Option.some.inj H;go_enter Try.func43,Try.ntmps43;try go_wp2_with (first|((with_reducible refine gate_dst (N:=1) rfl ?_);(try(refine gate_guard (by rfl) ?_;dsimp only));refine box_event ?hg (N:=1) ?hd (cs:=#[.int .i64 a0_0,.slice A0_1 l0_1.length c0_1]) (t:=26) ?hr ?_;(case hd=>rfl);(case hg=>rfl);(case hr=>first|(go_simp;done)|(go_simp;rfl));intro gb233 hg w14 hbox hb;have n0_:=qAm (below_step qB61 hb);have n1_:=qAm (hbox);have n2_:=qAm ((by rw [hg];exact(below_size qB61):w.heap.size≤gb233));have n3_:=qAm ((by rw [hg];exact(below_size qB61):w.heap.size≤gb233));clear HB;have HB:=n0_;have BK233:=n1_;have GW233:=n2_;have GE233:=n3_;clear n0_ n1_ n2_ n3_;clear hb hbox hg))
  have n0_:=qAm (blk_drew BK233.1);have n1_:=qAm (below_drew1 HB.1);clear BK233 HB;have BK233:=n0_;have HB:=n1_;clear n0_ n1_;refine start_ (n:=17) (S:=fun w'=>w'.cell? ⟨gb233,0,none⟩=some (.int .i64 a0_0)∧w'.cell? ⟨gb233,1,none⟩=some (.slice A0_1 l0_1.length c0_1)) (ds:=[]) #[false,false,false,false,false,false,false,false,false,false,false,false,false,false,false,false,false] (by kernel_rfl) rfl rfl ⟨(blk_cell BK233.1 0).trans rfl,(blk_cell BK233.1 1).trans rfl⟩ (fun hHeld=>?_);refine with_tabW spec_l01Is.tab1 spec_l01Is.bits1 (fun HT_ HW_=>?_);generalize w14.drew=w15 at BK233 HB hHeld ⊢;refine pure_ (i:=0) (N:=some 3) (v:=?_) (a':=?_) #[true,false,false,false,false,false,false,false,false,false,false,false,false,false,false,false,false] rfl rfl (any_of HT_.1 (by kernel_rfl)) (fun _ _ _ h=>h) (Or.inl ⟨by rfl,?_⟩) ?_ ?_;rotate_left
  ·intro w';go_simp;with_reducible rfl
  rotate_left
  ·simp only [Act.put,qSa,qSb,qSc,i64_w,i32_w];rfl
  refine take_ (i:=1) (N:=some 4) (v:=?_) (a':=?_) #[true,true,false,false,false,false,false,false,false,false,false,false,false,false,false,false,false] rfl rfl (take_ofW HT_.1 HW_.1 (by kernel_rfl)) (fun _ _ _ h=>h) (Or.inl ⟨by rfl,?_⟩) hHeld ?_ ?_;rotate_left
  ·rintro w' ⟨s0,s1⟩;go_simp;with_reducible rfl
  rotate_left
  ·simp only [Act.put,qSa,qSb,qSc,i64_w,i32_w];rfl
  refine one_ (i:=2) (N:=some 5) #[true,true,true,false,false,false,false,false,false,false,false,false,false,false,false,false,false] rfl rfl (one_of HT_.1 (by kernel_rfl)) (by decide) (fun K hK=>?_);refine goes_ Try.func44 (by kernel_rfl) rfl #[.int .i64 a0_0,.int .i64 1,.int .i64 16] (by rfl) rfl rfl qB60 ?_;with_reducible refine(spec_l01In.calls a0_0 1 16 false _ A2.1).mono ?_
  rintro e w' ⟨rfl,⟨nd,rfl⟩⟩;refine⟨_,rfl,?_⟩;refine hK.out _ _ ⟨(blk_cell BK233.1 0).trans rfl,(blk_cell BK233.1 1).trans rfl⟩ (fun hHeld=>?_);clear hK K;refine norm_ (a':=?_) ?_ ?_;rotate_left
  ·show Act.put _ (some 5) _=_
   simp only [Act.put,qSa,qSb,qSc,i64_w,i32_w];rfl
  refine pure_ (i:=3) (N:=some 6) (v:=?_) (a':=?_) #[true,true,true,true,false,false,false,false,false,false,false,false,false,false,false,false,false] rfl rfl (any_of HT_.1 (by kernel_rfl)) (fun _ _ _ h=>h) (Or.inl ⟨by rfl,?_⟩) ?_ ?_;rotate_left
  ·intro w';go_simp;with_reducible rfl
  rotate_left
  ·simp only [Act.put,qSa,qSb,qSc,i64_w,i32_w];rfl
  refine pure_ (i:=4) (N:=some 7) (v:=undef) (a':=?_) #[true,true,true,true,true,false,false,false,false,false,false,false,false,false,false,false,false] rfl rfl (any_of HT_.1 (by kernel_rfl)) (fun _ _ _ h=>h) (Or.inr ⟨by rfl,rfl⟩) ?_ ?_;rotate_left
  ·simp only [Act.put,qSa,qSb,qSc,i64_w,i32_w];rfl
  refine pure_ (i:=5) (N:=some 8) (v:=undef) (a':=?_) #[true,true,true,true,true,true,false,false,false,false,false,false,false,false,false,false,false] rfl rfl (any_of HT_.1 (by kernel_rfl)) (fun _ _ _ h=>h) (Or.inr ⟨by rfl,rfl⟩) ?_ ?_;rotate_left
  ·simp only [Act.put,qSa,qSb,qSc,i64_w,i32_w];rfl
  refine pure_ (i:=6) (N:=some 9) (v:=undef) (a':=?_) #[true,true,true,true,true,true,true,false,false,false,false,false,false,false,false,false,false] rfl rfl (any_of HT_.1 (by kernel_rfl)) (fun _ _ _ h=>h) (Or.inr ⟨by rfl,rfl⟩) ?_ ?_;rotate_left
  ·simp only [Act.put,qSa,qSb,qSc,i64_w,i32_w];rfl
  refine pure_ (i:=7) (N:=some 10) (v:=undef) (a':=?_) #[true,true,true,true,true,true,true,true,false,false,false,false,false,false,false,false,false] rfl rfl (any_of HT_.1 (by kernel_rfl)) (fun _ _ _ h=>h) (Or.inr ⟨by rfl,rfl⟩) ?_ ?_;rotate_left
  ·simp only [Act.put,qSa,qSb,qSc,i64_w,i32_w];rfl
  refine pure_ (i:=8) (N:=some 11) (v:=undef) (a':=?_) #[true,true,true,true,true,true,true,true,true,false,false,false,false,false,false,false,false] rfl rfl (any_of HT_.1 (by kernel_rfl)) (fun _ _ _ h=>h) (Or.inr ⟨by rfl,rfl⟩) ?_ ?_;rotate_left
  ·simp only [Act.put,qSa,qSb,qSc,i64_w,i32_w];rfl
  refine pure_ (i:=9) (N:=some 12) (v:=undef) (a':=?_) #[true,true,true,true,true,true,true,true,true,true,false,false,false,false,false,false,false] rfl rfl (any_of HT_.1 (by kernel_rfl)) (fun _ _ _ h=>h) (Or.inr ⟨by rfl,rfl⟩) ?_ ?_;rotate_left
  ·simp only [Act.put,qSa,qSb,qSc,i64_w,i32_w];rfl
  refine pure_ (i:=10) (N:=some 13) (v:=undef) (a':=?_) #[true,true,true,true,true,true,true,true,true,true,true,false,false,false,false,false,false] rfl rfl (any_of HT_.1 (by kernel_rfl)) (fun _ _ _ h=>h) (Or.inr ⟨by rfl,rfl⟩) ?_ ?_;rotate_left
  ·simp only [Act.put,qSa,qSb,qSc,i64_w,i32_w];rfl
  refine pure_ (i:=11) (N:=some 14) (v:=?_) (a':=?_) #[true,true,true,true,true,true,true,true,true,true,true,true,false,false,false,false,false] rfl rfl (any_of HT_.1 (by kernel_rfl)) (fun _ _ _ h=>h) (Or.inl ⟨by rfl,?_⟩) ?_ ?_;rotate_left
  ·intro w';go_simp;with_reducible rfl
  rotate_left
  ·simp only [Act.put,qSa,qSb,qSc,i64_w,i32_w];rfl
  refine pure_ (i:=12) (N:=some 15) (v:=?_) (a':=?_) #[true,true,true,true,true,true,true,true,true,true,true,true,true,false,false,false,false] rfl rfl (any_of HT_.1 (by kernel_rfl)) (fun _ _ _ h=>h) (Or.inl ⟨by rfl,?_⟩) ?_ ?_;rotate_left
  ·intro w';go_simp;with_reducible rfl
  rotate_left
  ·simp only [Act.put,qSa,qSb,qSc,i64_w,i32_w];rfl
  refine pure_ (i:=13) (N:=some 16) (v:=undef) (a':=?_) #[true,true,true,true,true,true,true,true,true,true,true,true,true,true,false,false,false] rfl rfl (any_of HT_.1 (by kernel_rfl)) (fun _ _ _ h=>h) (Or.inr ⟨by rfl,rfl⟩) ?_ ?_;rotate_left
  ·simp only [Act.put,qSa,qSb,qSc,i64_w,i32_w];rfl
  refine pure_ (i:=14) (N:=some 17) (v:=undef) (a':=?_) #[true,true,true,true,true,true,true,true,true,true,true,true,true,true,true,false,false] rfl rfl (any_of HT_.1 (by kernel_rfl)) (fun _ _ _ h=>h) (Or.inr ⟨by rfl,rfl⟩) ?_ ?_;rotate_left
  ·simp only [Act.put,qSa,qSb,qSc,i64_w,i32_w];rfl
  refine pure_ (i:=15) (N:=some 18) (v:=?_) (a':=?_) #[true,true,true,true,true,true,true,true,true,true,true,true,true,true,true,true,false] rfl rfl (any_of HT_.1 (by kernel_rfl)) (fun _ _ _ h=>h) (Or.inl ⟨by rfl,?_⟩) ?_ ?_;rotate_left
  ·intro w';go_simp;with_reducible rfl
  rotate_left
  ·simp only [Act.put,qSa,qSb,qSc,i64_w,i32_w];rfl
  refine pure_ (i:=16) (N:=some 2) (v:=?_) (a':=?_) #[true,true,true,true,true,true,true,true,true,true,true,true,true,true,true,true,true] rfl rfl (any_of HT_.1 (by kernel_rfl)) (fun _ _ _ h=>h) (Or.inl ⟨by rfl,?_⟩) ?_ ?_;rotate_left
  ·intro w';go_simp;with_reducible rfl
  rotate_left
  ·simp only [Act.put,qSa,qSb,qSc,i64_w,i32_w];rfl
  refine done_ (done_of HT_.1 (by kernel_rfl)) ?_;try go_wp2
  go_ret;exact⟨by first|rfl|(simp [errW_none,errW_some] <;> rfl)|(simp [*,errW_none,errW_some] <;> rfl),by repeat(first|(with_reducible first|exact HB.1|apply below_alloc|apply pw_below_drewN|apply below_drew1|refine below_set ?_ GE233.1)|exact HB.1)⟩

/-! ### spec_l01Unit: function 70 -/
def spec_l01Unit.f (k:Nat) (a0:Int) (a1:Int):Option (Int×List Int):=if a0=0 then (none) else (if 0≤(wrap64 ((Int.tmod (wrap64 ((Int.tmod a1 a0)+a0)) a0)+1)) then (if (wrap64 ((Int.tmod (wrap64 ((Int.tmod a1 a0)+a0)) a0)+1):Int).toNat≤35184372088832 then ((some (List.replicate (wrap64 ((Int.tmod (wrap64 ((Int.tmod a1 a0)+a0)) a0)+1):Int).toNat 0:List Int)).bind fun y238=>(if 0≤(Int.tmod (wrap64 ((Int.tmod a1 a0)+a0)) a0) then (if (Int.tmod (wrap64 ((Int.tmod a1 a0)+a0)) a0)<(y238.length:Int) then ((spec_l01Reduce.f k a0 (y238.set ((Int.tmod (wrap64 ((Int.tmod a1 a0)+a0)) a0):Int).toNat 1)).bind fun bt242=>(some (bt242.1,bt242.2))) else (none)) else (none))) else (none)) else (none))
theorem spec_l01Unit.mono:∀a0 a1 k,LeO (spec_l01Unit.f k a0 a1) (spec_l01Unit.f (k+1) a0 a1):=by
 intro a0 a1 k;unfold spec_l01Unit.f;repeat' first
   |(with_reducible exact spec_l01Reduce.mono _ _ _)
   |(with_reducible exact LeO.refl _)
   |(with_reducible exact LeO.none _)
   |(with_reducible refine LeO.ite ?_ ?_)
   |(with_reducible refine LeO.bind ?_ (fun _=>?_))
   |exact spec_l01Reduce.mono _ _ _
   |exact LeO.none _
   |refine LeO.ite ?_ ?_
   |refine LeO.bind ?_ (fun _=>?_)
set_option maxHeartbeats 8000000 in
set_option maxRecDepth 100000 in
theorem spec_l01Unit.calls (k:Nat) (a0:Int) (a1:Int) (r1:Int) (r2:List Int) (w:World) (h:spec_l01Unit.f k a0 a1=some (r1,r2)):
  Calls Try.prog 70 #[.int .i64 a0,.int .i64 a1] w fun e w'=>∃v1_:Value,e=.returned (.agg #[.int .i64 r1,v1_])∧Kd.R (Kd.int .i64) 2 w' w.heap.size (fun _=>True) v1_ r2∧Below w.heap.size w w':=by
 have hu26:=Try.underlying26;have HB:=qAm (Below.refl w.heap.size w);have H:(if a0=0 then (none) else (if 0≤(wrap64 ((Int.tmod (wrap64 ((Int.tmod a1 a0)+a0)) a0)+1)) then (if (wrap64 ((Int.tmod (wrap64 ((Int.tmod a1 a0)+a0)) a0)+1):Int).toNat≤35184372088832 then ((some (List.replicate (wrap64 ((Int.tmod (wrap64 ((Int.tmod a1 a0)+a0)) a0)+1):Int).toNat 0:List Int)).bind fun y238=>(if 0≤(Int.tmod (wrap64 ((Int.tmod a1 a0)+a0)) a0) then (if (Int.tmod (wrap64 ((Int.tmod a1 a0)+a0)) a0)<(y238.length:Int) then ((spec_l01Reduce.f k a0 (y238.set ((Int.tmod (wrap64 ((Int.tmod a1 a0)+a0)) a0):Int).toNat 1)).bind fun bt242=>(some (bt242.1,bt242.2))) else (none)) else (none))) else (none)) else (none)))=some (r1,r2):=h;clear h
 by_cases c3:a0=0
 ·rw [if_pos c3] at H;exact absurd H (by simp)
 ·rw [if_neg c3] at H;have c3b0:(a0==0)=false:=beq_eq_false_iff_ne.mpr c3;have c3b1:(a0 !=0)=true:=bne_iff_ne.mpr c3;obtain⟨ji4,hji4⟩:∃j_:Int,(wrap64 ((Int.tmod (wrap64 ((Int.tmod a1 a0)+a0)) a0)+1))=j_:=⟨_,rfl⟩
  replace H:(if 0≤(ji4) then (if (ji4:Int).toNat≤35184372088832 then ((some (List.replicate (ji4:Int).toNat 0:List Int)).bind fun y238=>(if 0≤(Int.tmod (wrap64 ((Int.tmod a1 a0)+a0)) a0) then (if (Int.tmod (wrap64 ((Int.tmod a1 a0)+a0)) a0)<(y238.length:Int) then ((spec_l01Reduce.f k a0 (y238.set ((Int.tmod (wrap64 ((Int.tmod a1 a0)+a0)) a0):Int).toNat 1)).bind fun bt242=>(some (bt242.1,bt242.2))) else (none)) else (none))) else (none)) else (none))=some (r1,r2):=by first|(rw [hji4] at H;exact H)|(simp only [hji4] at H ⊢;exact H)
  have hji4w:(IntKind.i64.wrap ((Int.tmod (wrap64 ((Int.tmod a1 a0)+a0)) a0)+1))=ji4:=(i64_w _).trans hji4
  by_cases c5:0≤(ji4)
  ·rw [if_pos c5] at H;have c5b0:=eq_true c5;have c5b1:decide (0≤(ji4))=true:=decide_eq_true c5;clear c5
   by_cases c6:(ji4:Int).toNat≤35184372088832
   ·rw [if_pos c6] at H;have c6b0:=eq_true c6;have c6b1:decide ((ji4:Int).toNat≤35184372088832)=true:=decide_eq_true c6;clear c6;obtain⟨y238,hy238⟩:∃y_:List Int,y_=(List.replicate (ji4:Int).toNat 0):=⟨_,rfl⟩
    replace H:(if 0≤(Int.tmod (wrap64 ((Int.tmod a1 a0)+a0)) a0) then (if (Int.tmod (wrap64 ((Int.tmod a1 a0)+a0)) a0)<(y238.length:Int) then ((spec_l01Reduce.f k a0 (y238.set ((Int.tmod (wrap64 ((Int.tmod a1 a0)+a0)) a0):Int).toNat 1)).bind fun bt242=>(some (bt242.1,bt242.2))) else (none)) else (none))=some (r1,r2):=by first|(rw [hy238];with_reducible exact H)|(have H2_:=(Option.bind_some _ _).symm.trans H;rw [hy238];with_reducible exact H2_)|(have H2_:=(Option.bind_some _ _).symm.trans H;with_reducible exact H2_)|with_reducible exact H|(rw [hy238];exact H)|exact H
    have Ny238:=qAm hy238;clear hy238;obtain⟨ji7,hji7⟩:∃j_:Int,(Int.tmod (wrap64 ((Int.tmod a1 a0)+a0)) a0)=j_:=⟨_,rfl⟩
    have hji4_ji7:(wrap64 (ji7+1))=ji4:=by rw [← hji7];exact hji4
    have hji4_ji7w:(IntKind.i64.wrap (ji7+1))=ji4:=(i64_w _).trans hji4_ji7;replace H:(if 0≤(ji7) then (if (ji7)<(y238.length:Int) then ((spec_l01Reduce.f k a0 (y238.set ((ji7):Int).toNat 1)).bind fun bt242=>(some (bt242.1,bt242.2))) else (none)) else (none))=some (r1,r2):=by first|(rw [hji7] at H;exact H)|(simp only [hji7] at H ⊢;exact H)
    by_cases c8:0≤(ji7)
    ·rw [if_pos c8] at H;have c8b0:decide (0≤(ji7))=true:=decide_eq_true c8;clear c8
     by_cases c9:(ji7)<(y238.length:Int)
     ·rw [if_pos c9] at H;have c9b0:decide ((ji7)<(y238.length:Int))=true:=decide_eq_true c9;clear c9;obtain⟨y241,hy241⟩:∃y_:List Int,y_=(y238.set ((ji7):Int).toNat 1):=⟨_,rfl⟩
      replace H:((spec_l01Reduce.f k a0 y241).bind fun bt242=>(some (bt242.1,bt242.2)))=some (r1,r2):=by first|(rw [hy241];with_reducible exact H)|(have H2_:=(Option.bind_some _ _).symm.trans H;rw [hy241];with_reducible exact H2_)|(have H2_:=(Option.bind_some _ _).symm.trans H;with_reducible exact H2_)|with_reducible exact H|(rw [hy241];exact H)|exact H
      have Ny241:=qAm hy241;clear hy241;replace H:=qOb H;obtain⟨⟨t242,t243⟩,A110,H⟩:=H;replace H:(some (t242,t243))=some (r1,r2):=H;have A11:=qAm A110;clear A110;simp only [Option.some.injEq,Prod.mk.injEq] at H;obtain⟨rfl,rfl⟩:=H;go_enter Try.func70,Try.ntmps70;go_wp2_with (first|((with_reducible refine gate_dst (N:=4) rfl ?_);refine box_event ?hg (N:=4) ?hd (cs:=#[.int .i64 0,.slice none 0 0]) (t:=26) ?hr ?_;(case hd=>rfl);(case hg=>rfl);(case hr=>first|(go_simp;done)|(go_simp;rfl));intro gb237 hg w12 hbox hb;have n0_:=qAm (below_step qB61 hb);have n1_:=qAm (hbox);have n2_:=qAm ((by rw [hg];exact(below_size qB61):w.heap.size≤gb237));have n3_:=qAm ((by rw [hg];exact(below_size qB61):w.heap.size≤gb237));clear HB;have HB:=n0_;have BK237:=n1_;have GW237:=n2_;have GE237:=n3_;clear n0_ n1_ n2_ n3_;clear hb hbox hg)|((with_reducible refine gate_dst (N:=15) rfl ?_);refine Kd.R_make (Kd.int .i64) _ 2 rfl (N:=15) rfl 22 _ _ rfl ji4 rfl rfl Try.underlying22 (.int .i64 0) 8 info2 rfl (by decide) (by omega) 0 (ok:=fun _=>True) (okp:=fun _=>True) rfl (fun _ hk=>hk) trivial (of_decide_eq_true qB118) (Nat.le_trans (Nat.mul_le_mul_right _ (of_decide_eq_true qB118:ji4.toNat≤35184372088832)) (by omega)) (Below.refl _ _) (Nat.le_refl _) ?_;intro v239 w13 ho14 hb hg_ hnew_;clear hg_ hnew_;(first|rw [← Ny238.1] at ho14|(simp only [Int.reduceToNat] at ho14;rw [← Ny238.1] at ho14));have n0_:=qAm (Kd.R_lower ho14 (below_size qB44));have n1_:=qAm (blk_below (g:=gb237) (o:=.cells #[.int .i64 0,.slice none 0 0] 26 (0,0)) qB77 hb);have n2_:=qAm (below_step qB44 hb);clear BK237;clear HB;have HO240:=n0_;have BK237:=n1_;have HB:=n2_;clear n0_ n1_ n2_;clear hb ho14;have p10:0≤((ji7):Int):=of_decide_eq_true qB118;have q10:((ji7):Int)<((y238.length:Int):Int):=of_decide_eq_true qB118;obtain⟨go10,co10,eo10,gb10,gl10,cl10,HG10⟩:=Kd.R_form HO240.1 (by omega);(first|cases eo10|(injection eo10 with ea_ en_ ec_;(first|subst ea_|(injection ea_ with ea_;subst ea_));subst ec_;clear en_));have GB10:=qAm gb10;have GG10:=qAm HG10;clear gb10 gl10 HG10;obtain⟨hx10_0,hf10_0⟩:=Kd.R_celln 0 HO240.1 ((ji7):Int) p10 q10;replace p10:=eq_true p10;replace q10:=eq_true q10;obtain⟨hy15_,hz15_⟩:=Kd.R_celln 0 HO240.1 ((ji7):Int) (of_decide_eq_true qB118) (of_decide_eq_true qB118);have HP15:=Kd.R_putg HO240.1 ((ji7):Int) 1)|((with_reducible refine gate_store (t:=2) (p:=18) rfl ?_);refine store_event (t:=2) (p:=18) (v:=?vo_w16) (w1:=(w13.setCell ⟨go10,((ji7):Int).toNat,none⟩ (.int .i64 1))) ?hg ?ho ?hn ?hr ?_;(case ho=>rfl);(case hg=>rfl);(case hn=>rfl);(case hr=>first|(go_simp;done)|(go_simp;rfl));intro w16 hw;have hg:w13.grownBy w16 (some go10):=(by rw [hw];exact HP15.2);have hp_:Kd.R (Kd.int .i64) 2 w16 w.heap.size (fun _=>True) (.slice (some ⟨go10,0,none⟩) y238.length co10) y241:=(by rw [hw,Ny241.1];exact HP15.1);clear HP15;have n0_:=qAm (blk_grown (g:=gb237) (o:=.cells #[.int .i64 0,.slice none 0 0] 26 (0,0)) qB77 hg (Kd.R_ne HO240.1 BK237.1 (by decide)));have n1_:=qAm (hp_);have n2_:=qAm ((by rw [hw];exact below_set (HB.1) GB10.1:Below w.heap.size w w16));clear BK237;clear HO240;clear HB;have BK237:=n0_;have HO240:=n1_;have HB:=n2_;clear n0_ n1_ n2_;clear hg hw hp_)|((with_reducible refine gate_callee (f:=83) rfl ?_);refine goesL_ (some 21) rfl rfl Try.func83 (by kernel_rfl) rfl #[.int .i64 a0,.slice (some ⟨go10,0,none⟩) y241.length co10] rfl (by (try simp only [List.map_toArray,List.map_cons,List.map_nil]);first|done|(rw [show y241.length=y238.length from (Kd.R_reads' HO240.1).1.symm] <;> rfl)|rfl|(simp only [List.length_drop,List.length_take];rfl)) ?_;(with_reducible refine(spec_l01Reduce.calls k a0 _ _ y241 t242 t243 _ ?side1 ?side2 A11.1).mono ?_);(case side1=>repeat(first|exact(Kd.R_reads' HO240.1).2.2|(with_reducible refine Kd.C_alloc ?_ _)|(with_reducible refine Kd.C_drewN ?_ _)|(with_reducible refine Kd.C_drew ?_)));(case side2=>rw [show y241.length=y238.length from (Kd.R_reads' HO240.1).1.symm];exact(Kd.R_reads' HO240.1).2.1);rintro e w17 ⟨v244,rfl,ho0,hb⟩;refine⟨_,rfl,?_⟩;have n0_:=qAm (Kd.R_elder' qB101 (Kd.R_base ho0) hb);have n1_:=qAm (Kd.R_lower (Kd.R_new' ho0 (Kd.R_lt qB101)) (below_size qB44));have n2_:=qAm (blk_below (g:=gb237) (o:=.cells #[.int .i64 0,.slice none 0 0] 26 (0,0)) qB77 hb);have n3_:=qAm (below_step qB44 hb);clear HO240;clear BK237;clear HB;have HO240:=n0_;have HO245:=n1_;have BK237:=n2_;have HB:=n3_;clear n0_ n1_ n2_ n3_;(try clear hb);(try clear hb2);(try clear hk);(try clear hi);(try clear ho0);have hcz18_0:w17.cell? ⟨gb237,0,none⟩=some (.int .i64 0):=(blk_cell BK237.1 0).trans rfl;have hcz18_1:w17.cell? ⟨gb237,1,none⟩=some (.slice none 0 0):=(blk_cell BK237.1 1).trans rfl;have hfz18_0:=blk_frozen BK237.1 0;have hfz18_1:=blk_frozen BK237.1 1;obtain⟨Ao19,co19,eo19⟩:=Kd.R_slice HO245.1;subst eo19));refine bodyPost_ret (results_cell_row rfl _ _ gb237 26 #[.int .i64 t242,.slice Ao19 t243.length co19] (0,0) _ rfl (by (with_reducible repeat(first|refine blk_drewN ?_ _|refine blk_drew ?_|refine blk_alloc ?_ _));refine blk_put (cs:=#[.int .i64 t242,.slice none 0 0]) ?_ 1 _ rfl;(with_reducible repeat(first|refine blk_drewN ?_ _|refine blk_drew ?_|refine blk_alloc ?_ _));refine blk_put (cs:=#[.int .i64 0,.slice none 0 0]) ?_ 0 _ rfl;(with_reducible repeat(first|refine blk_drewN ?_ _|refine blk_drew ?_|refine blk_alloc ?_ _));exact BK237.1) Try.underlying26 rfl (by kernel_rfl)) rfl ?_;exact⟨_,by first|rfl|(simp [errW_none,errW_some] <;> rfl)|(simp only [← hji4,← hji7];first|rfl|(simp [errW_none,errW_some] <;> rfl))|(simp [*,errW_none,errW_some] <;> rfl),by (with_reducible repeat(first|apply Kd.R_alloc|apply Kd.R_drewN|apply Kd.R_drew));exact Kd.R_mono (Kd.R_far (p:=⟨gb237,1,none⟩) (Kd.R_far (p:=⟨gb237,0,none⟩) (Kd.R_types HO245.1 BK237.1 (by decide)) (fun _ hk=>hk.2) (.int .i64 t242)) (fun _ hk=>hk.2) (.slice Ao19 t243.length co19)) (fun _ hk=>trivial),by repeat(first|(with_reducible first|exact HB.1|apply below_alloc|apply pw_below_drewN|apply below_drew1|refine below_set ?_ GE237.1)|exact HB.1)⟩
     ·rw [if_neg c9] at H;exact absurd H (by simp)
    ·rw [if_neg c8] at H;exact absurd H (by simp)
   ·rw [if_neg c6] at H;exact absurd H (by simp)
  ·rw [if_neg c5] at H;exact absurd H (by simp)

/-! ### spec_l01One: function 45 -/
def spec_l01One.f (k:Nat) (a0:Int):Option (Int×List Int):=(spec_l01Unit.f k a0 0).bind fun bt247=>(some (bt247.1,bt247.2))
theorem spec_l01One.mono:∀a0 k,LeO (spec_l01One.f k a0) (spec_l01One.f (k+1) a0):=by
 intro a0 k;unfold spec_l01One.f;repeat' first
   |(with_reducible exact spec_l01Unit.mono _ _ _)
   |(with_reducible exact LeO.refl _)
   |(with_reducible exact LeO.none _)
   |(with_reducible refine LeO.ite ?_ ?_)
   |(with_reducible refine LeO.bind ?_ (fun _=>?_))
   |exact spec_l01Unit.mono _ _ _
   |exact LeO.none _
   |refine LeO.ite ?_ ?_
   |refine LeO.bind ?_ (fun _=>?_)
set_option maxHeartbeats 8000000 in
set_option maxRecDepth 100000 in
theorem spec_l01One.calls (k:Nat) (a0:Int) (r1:Int) (r2:List Int) (w:World) (h:spec_l01One.f k a0=some (r1,r2)):
  Calls Try.prog 45 #[.int .i64 a0] w fun e w'=>∃v1_:Value,e=.returned (.agg #[.int .i64 r1,v1_])∧Kd.R (Kd.int .i64) 2 w' w.heap.size (fun _=>True) v1_ r2∧Below w.heap.size w w':=by
 have hu26:=Try.underlying26;have HB:=qAm (Below.refl w.heap.size w);have H:((spec_l01Unit.f k a0 0).bind fun bt247=>(some (bt247.1,bt247.2)))=some (r1,r2):=h;clear h;replace H:=qOb H;obtain⟨⟨t247,t248⟩,A20,H⟩:=H;replace H:(some (t247,t248))=some (r1,r2):=H;have A2:=qAm A20;clear A20;simp only [Option.some.injEq,Prod.mk.injEq] at H;obtain⟨rfl,rfl⟩:=H;go_enter Try.func45,Try.ntmps45;go_wp2_with (first|((with_reducible refine gate_dst (N:=2) rfl ?_);refine box_event ?hg (N:=2) ?hd (cs:=#[.int .i64 0,.slice none 0 0]) (t:=26) ?hr ?_;(case hd=>rfl);(case hg=>rfl);(case hr=>first|(go_simp;done)|(go_simp;rfl));intro gb246 hg w3 hbox hb;have n0_:=qAm (below_step qB61 hb);have n1_:=qAm (hbox);have n2_:=qAm ((by rw [hg];exact(below_size qB61):w.heap.size≤gb246));have n3_:=qAm ((by rw [hg];exact(below_size qB61):w.heap.size≤gb246));clear HB;have HB:=n0_;have BK246:=n1_;have GW246:=n2_;have GE246:=n3_;clear n0_ n1_ n2_ n3_;clear hb hbox hg)|((with_reducible refine gate_callee (f:=70) rfl ?_);refine goesL_ (some 4) rfl rfl Try.func70 (by kernel_rfl) rfl #[.int .i64 a0,.int .i64 0] rfl qB60 ?_;(with_reducible refine(spec_l01Unit.calls k a0 0 t247 t248 _ A2.1).mono ?_);rintro e w4 ⟨v249,rfl,ho0,hb⟩;refine⟨_,rfl,?_⟩;have n0_:=qAm (Kd.R_lower ho0 (below_size qB45));have n1_:=qAm (blk_below (g:=gb246) (o:=.cells #[.int .i64 0,.slice none 0 0] 26 (0,0)) (by (with_reducible repeat(first|refine blk_drewN ?_ _|refine blk_drew ?_|refine blk_alloc ?_ _));exact BK246.1) hb);have n2_:=qAm (below_step qB45 hb);clear BK246;clear HB;have HO250:=n0_;have BK246:=n1_;have HB:=n2_;clear n0_ n1_ n2_;(try clear hb);(try clear hb2);(try clear hk);(try clear hi);(try clear ho0);have hcz5_0:w4.cell? ⟨gb246,0,none⟩=some (.int .i64 0):=(blk_cell BK246.1 0).trans rfl;have hcz5_1:w4.cell? ⟨gb246,1,none⟩=some (.slice none 0 0):=(blk_cell BK246.1 1).trans rfl;have hfz5_0:=blk_frozen BK246.1 0;have hfz5_1:=blk_frozen BK246.1 1;obtain⟨Ao6,co6,eo6⟩:=Kd.R_slice HO250.1;subst eo6));refine bodyPost_ret (results_cell_row rfl _ _ gb246 26 #[.int .i64 t247,.slice Ao6 t248.length co6] (0,0) _ rfl (by (with_reducible repeat(first|refine blk_drewN ?_ _|refine blk_drew ?_|refine blk_alloc ?_ _));refine blk_put (cs:=#[.int .i64 t247,.slice none 0 0]) ?_ 1 _ rfl;(with_reducible repeat(first|refine blk_drewN ?_ _|refine blk_drew ?_|refine blk_alloc ?_ _));refine blk_put (cs:=#[.int .i64 0,.slice none 0 0]) ?_ 0 _ rfl;(with_reducible repeat(first|refine blk_drewN ?_ _|refine blk_drew ?_|refine blk_alloc ?_ _));exact BK246.1) Try.underlying26 rfl (by kernel_rfl)) rfl ?_;exact⟨_,by first|rfl|(simp [errW_none,errW_some] <;> rfl)|(simp [*,errW_none,errW_some] <;> rfl),by (with_reducible repeat(first|apply Kd.R_alloc|apply Kd.R_drewN|apply Kd.R_drew));exact Kd.R_mono (Kd.R_far (p:=⟨gb246,1,none⟩) (Kd.R_far (p:=⟨gb246,0,none⟩) (Kd.R_types HO250.1 BK246.1 (by decide)) (fun _ hk=>hk.2) (.int .i64 t247)) (fun _ hk=>hk.2) (.slice Ao6 t248.length co6)) (fun _ hk=>trivial),by repeat(first|(with_reducible first|exact HB.1|apply below_alloc|apply pw_below_drewN|apply below_drew1|refine below_set ?_ GE246.1)|exact HB.1)⟩

/-! ### spec_PowerCyclo: function 18 -/
def spec_PowerCyclo.l0:Nat→Int→Int→List Int→Int→List Int→Option (Int×List Int×Int)
 |0,_,_,_,_,_=>none
 |k+1,x1,x252000,x252001,x260000,x260001=>if x1 > 0 then ((spec_l01Times.f k x260000 x260001 x252000 x252001).bind fun bt260=>(if bt260.2.2=true then (spec_PowerCyclo.l0 k (wrap64 (x1 - 1)) x252000 x252001 bt260.1 bt260.2.1) else (some (0,([]:List Int),3)))) else (some (x260000,x260001,0))
def spec_PowerCyclo.f (k:Nat) (a0_0:Int) (l0_1:List Int) (a1:Int):Option (Int×List Int×Int):=(spec_l01Is.f k a0_0 l0_1).bind fun t253=>(if t253=true then ((spec_l01In.f a1 0 64).bind fun t254=>(if t254=true then ((spec_l01One.f k a0_0).bind fun bt255=>(spec_PowerCyclo.l0 k a1 a0_0 l0_1 bt255.1 bt255.2)) else (some (0,([]:List Int),2)))) else (some (0,([]:List Int),1)))
theorem spec_PowerCyclo.mono_l:∀k,(∀y0 y1 y2 y3 y4,LeO (spec_PowerCyclo.l0 k y0 y1 y2 y3 y4) (spec_PowerCyclo.l0 (k+1) y0 y1 y2 y3 y4))
 |0=>fun _ _ _ _ _ r h=>by simp [spec_PowerCyclo.l0] at h
 |k+1=>by
  have ih0:=spec_PowerCyclo.mono_l k
  ·intro y0 y1 y2 y3 y4;unfold spec_PowerCyclo.l0;repeat' first
   |(with_reducible exact ih0 _ _ _ _ _)
   |(with_reducible exact spec_l01Is.mono _ _ _)
   |(with_reducible exact spec_l01One.mono _ _)
   |(with_reducible exact spec_l01Times.mono _ _ _ _ _)
   |(with_reducible exact LeO.refl _)
   |(with_reducible exact LeO.none _)
   |(with_reducible refine LeO.ite ?_ ?_)
   |(with_reducible refine LeO.bind ?_ (fun _=>?_))
   |exact ih0 _ _ _ _ _
   |exact spec_l01Is.mono _ _ _
   |exact spec_l01One.mono _ _
   |exact spec_l01Times.mono _ _ _ _ _
   |exact LeO.none _
   |refine LeO.ite ?_ ?_
   |refine LeO.bind ?_ (fun _=>?_)
theorem spec_PowerCyclo.mono:∀a0 a1 a2 k,LeO (spec_PowerCyclo.f k a0 a1 a2) (spec_PowerCyclo.f (k+1) a0 a1 a2):=by
 intro a0 a1 a2 k;have ih0:=spec_PowerCyclo.mono_l k;unfold spec_PowerCyclo.f;repeat' first
   |(with_reducible exact ih0 _ _ _ _ _)
   |(with_reducible exact spec_l01Is.mono _ _ _)
   |(with_reducible exact spec_l01One.mono _ _)
   |(with_reducible exact spec_l01Times.mono _ _ _ _ _)
   |(with_reducible exact LeO.refl _)
   |(with_reducible exact LeO.none _)
   |(with_reducible refine LeO.ite ?_ ?_)
   |(with_reducible refine LeO.bind ?_ (fun _=>?_))
   |exact ih0 _ _ _ _ _
   |exact spec_l01Is.mono _ _ _
   |exact spec_l01One.mono _ _
   |exact spec_l01Times.mono _ _ _ _ _
   |exact LeO.none _
   |refine LeO.ite ?_ ?_
   |refine LeO.bind ?_ (fun _=>?_)
set_option maxHeartbeats 8000000 in
set_option maxRecDepth 100000 in
theorem spec_PowerCyclo.calls (k:Nat) (a0_0:Int) (A0_1:Option Addr) (c0_1:Nat) (l0_1:List Int) (a1:Int) (r1:Int) (r2:List Int) (r3:Int) (w:World) (hr0_1:Kd.C (Kd.int .i64) w A0_1 l0_1.length l0_1) (hc0_1:l0_1.length≤c0_1) (h:spec_PowerCyclo.f k a0_0 l0_1 a1=some (r1,r2,r3)):
  Calls Try.prog 18 #[.agg #[.int .i64 a0_0,.slice A0_1 l0_1.length c0_1],.int .i64 a1] w fun e w'=>∃v1_:Value,e=.returned (.tuple #[.agg #[.int .i64 r1,v1_],.int .i64 r3])∧Kd.R (Kd.int .i64) 2 w' w.heap.size (fun _=>True) v1_ r2∧Below w.heap.size w w':=by
 have hu26:=Try.underlying26;have HR0_1:=qAm hr0_1;have HC0_1:=qAm hc0_1;clear hr0_1 hc0_1;have HB:=qAm (Below.refl w.heap.size w);have H:((spec_l01Is.f k a0_0 l0_1).bind fun t253=>(if t253=true then ((spec_l01In.f a1 0 64).bind fun t254=>(if t254=true then ((spec_l01One.f k a0_0).bind fun bt255=>(spec_PowerCyclo.l0 k a1 a0_0 l0_1 bt255.1 bt255.2)) else (some (0,([]:List Int),2)))) else (some (0,([]:List Int),1))))=some (r1,r2,r3):=h;clear h;replace H:=qOb H;obtain⟨t253,A30,H⟩:=H;replace H:(if t253=true then ((spec_l01In.f a1 0 64).bind fun t254=>(if t254=true then ((spec_l01One.f k a0_0).bind fun bt255=>(spec_PowerCyclo.l0 k a1 a0_0 l0_1 bt255.1 bt255.2)) else (some (0,([]:List Int),2)))) else (some (0,([]:List Int),1)))=some (r1,r2,r3):=H;have A3:=qAm A30;clear A30
 by_cases c4:t253=true
 ·subst c4;have H1:((spec_l01In.f a1 0 64).bind fun t254=>(if t254=true then ((spec_l01One.f k a0_0).bind fun bt255=>(spec_PowerCyclo.l0 k a1 a0_0 l0_1 bt255.1 bt255.2)) else (some (0,([]:List Int),2))))=some (r1,r2,r3):=by rw [if_pos rfl] at H;exact H
  clear H;have H:=H1;clear H1;replace H:=qOb H;obtain⟨t254,A50,H⟩:=H;replace H:(if t254=true then ((spec_l01One.f k a0_0).bind fun bt255=>(spec_PowerCyclo.l0 k a1 a0_0 l0_1 bt255.1 bt255.2)) else (some (0,([]:List Int),2)))=some (r1,r2,r3):=H;have A5:=qAm A50;clear A50
  by_cases c6:t254=true
  ·subst c6;have H1:((spec_l01One.f k a0_0).bind fun bt255=>(spec_PowerCyclo.l0 k a1 a0_0 l0_1 bt255.1 bt255.2))=some (r1,r2,r3):=by rw [if_pos rfl] at H;exact H
   clear H;have H:=H1;clear H1;replace H:=qOb H;obtain⟨⟨t255,t256⟩,A70,H⟩:=H;replace H:(spec_PowerCyclo.l0 k a1 a0_0 l0_1 t255 t256)=some (r1,r2,r3):=H;have A7:=qAm A70;clear A70;have H':=qAm H;clear H;go_enter Try.func18,Try.ntmps18;go_wp2_with (first|((with_reducible refine gate_dst (N:=2) rfl ?_);refine box_event ?hg (N:=2) ?hd (cs:=#[.int .i64 a0_0,.slice A0_1 l0_1.length c0_1]) (t:=26) ?hr ?_;(case hd=>rfl);(case hg=>rfl);(case hr=>first|(go_simp;done)|(go_simp;rfl));intro gb251 hg w8 hbox hb;have n0_:=qAm (below_step qB61 hb);have n1_:=qAm (hbox);have n2_:=qAm ((by rw [hg];exact(below_size qB61):w.heap.size≤gb251));have n3_:=qAm ((by rw [hg];exact(below_size qB61):w.heap.size≤gb251));clear HB;have HB:=n0_;have BK251:=n1_;have GW251:=n2_;have GE251:=n3_;clear n0_ n1_ n2_ n3_;clear hb hbox hg)|((with_reducible refine gate_dst (N:=4) rfl ?_);refine box_event ?hg (N:=4) ?hd (cs:=#[.int .i64 0,.slice none 0 0]) (t:=26) ?hr ?_;(case hd=>rfl);(case hg=>rfl);(case hr=>first|(go_simp;done)|(go_simp;rfl));intro gb252 hg w9 hbox hb;have n0_:=qAm (blk_below (g:=gb251) (o:=.cells #[.int .i64 a0_0,.slice A0_1 l0_1.length c0_1] 26 (0,0)) qB78 hb);have n1_:=qAm (below_step qB46 hb);have n2_:=qAm (hbox);have n3_:=qAm ((by rw [hg];exact(below_size qB46):w.heap.size≤gb252));have n4_:=qAm ((by rw [hg];exact(below_size qB46):w.heap.size≤gb252));have n5_:=qAm ((by rw [hg];exact Nat.ne_of_lt (blk_lt (g:=gb251) (o:=.cells #[.int .i64 a0_0,.slice A0_1 l0_1.length c0_1] 26 (0,0)) qB78):gb251≠gb252));have n6_:=qAm ((by rw [hg];exact Nat.ne_of_gt (blk_lt (g:=gb251) (o:=.cells #[.int .i64 a0_0,.slice A0_1 l0_1.length c0_1] 26 (0,0)) qB78):gb252≠gb251));clear BK251;clear HB;have BK251:=n0_;have HB:=n1_;have BK252:=n2_;have GW252:=n3_;have GE252:=n4_;have NB251_252:=n5_;have NB252_251:=n6_;clear n0_ n1_ n2_ n3_ n4_ n5_ n6_;clear hb hbox hg;have hnb10:=NB251_252.1;have hnc10:=NB252_251.1;have hcz11_0:w9.cell? ⟨gb251,0,none⟩=some (.int .i64 a0_0):=(blk_cell BK251.1 0).trans rfl;have hcz11_1:w9.cell? ⟨gb251,1,none⟩=some (.slice A0_1 l0_1.length c0_1):=(blk_cell BK251.1 1).trans rfl;have hfz11_0:=blk_frozen BK251.1 0;have hfz11_1:=blk_frozen BK251.1 1)|((with_reducible refine gate_callee (f:=43) rfl ?_);refine goesL_ (some 10) rfl rfl Try.func43 (by kernel_rfl) rfl #[.agg #[.int .i64 a0_0,.slice A0_1 l0_1.length c0_1]] rfl qB60 ?_;(with_reducible refine(spec_l01Is.calls k a0_0 _ _ l0_1 true _ ?side1 ?side2 A3.1).mono ?_);(case side1=>repeat(first|exact(Kd.C_below HR0_1.1 HB.1)|(with_reducible refine Kd.C_alloc ?_ _)|(with_reducible refine Kd.C_drewN ?_ _)|(with_reducible refine Kd.C_drew ?_)));(case side2=>exact HC0_1.1);rintro e w12 ⟨rfl,hb⟩;refine⟨_,rfl,?_⟩;have n0_:=qAm (blk_below (g:=gb251) (o:=.cells #[.int .i64 a0_0,.slice A0_1 l0_1.length c0_1] 26 (0,0)) qB78 hb);have n1_:=qAm (blk_below (g:=gb252) (o:=.cells #[.int .i64 0,.slice none 0 0] 26 (0,0)) qB79 hb);have n2_:=qAm (below_step qB33 hb);clear BK251;clear BK252;clear HB;have BK251:=n0_;have BK252:=n1_;have HB:=n2_;clear n0_ n1_ n2_;(try clear hb);(try clear hb2);(try clear hk);(try clear hi))|((with_reducible refine gate_callee (f:=44) rfl ?_);refine goesL_ (some 15) rfl rfl Try.func44 (by kernel_rfl) rfl #[.int .i64 a1,.int .i64 0,.int .i64 64] rfl qB60 ?_;(with_reducible refine(spec_l01In.calls a1 0 64 true _ A5.1).mono ?_);rintro e w' ⟨rfl,⟨nd,rfl⟩⟩;refine⟨_,rfl,?_⟩;(try(rw [drewN_self w12];generalize hq_:World.drewN w12 _=w12;have n0_:Aside0 (w12.heap[gb251]? =some (.cells #[.int .i64 a0_0,.slice A0_1 l0_1.length c0_1] 26 (0,0))):=⟨by rw [← hq_];exact qB78⟩;have n1_:Aside0 (w12.heap[gb252]? =some (.cells #[.int .i64 0,.slice none 0 0] 26 (0,0))):=⟨by rw [← hq_];exact qB79⟩;have n2_:Aside0 (Below w.heap.size w w12):=⟨by rw [← hq_];exact qB33⟩;clear BK251 BK252 HB hq_;have BK251:=n0_;have BK252:=n1_;have HB:=n2_;clear n0_ n1_ n2_));have hcz13_0:w12.cell? ⟨gb251,0,none⟩=some (.int .i64 a0_0):=(blk_cell BK251.1 0).trans rfl;have hcz13_1:w12.cell? ⟨gb251,1,none⟩=some (.slice A0_1 l0_1.length c0_1):=(blk_cell BK251.1 1).trans rfl;have hfz13_0:=blk_frozen BK251.1 0;have hfz13_1:=blk_frozen BK251.1 1)|((with_reducible refine gate_callee (f:=45) rfl ?_);refine goesL_ (some 20) rfl rfl Try.func45 (by kernel_rfl) rfl #[.int .i64 a0_0] rfl qB60 ?_;(with_reducible refine(spec_l01One.calls k a0_0 t255 t256 _ A7.1).mono ?_);rintro e w14 ⟨v257,rfl,ho0,hb⟩;refine⟨_,rfl,?_⟩;have n0_:=qAm (Kd.R_lower ho0 (below_size qB33));have n1_:=qAm (blk_below (g:=gb251) (o:=.cells #[.int .i64 a0_0,.slice A0_1 l0_1.length c0_1] 26 (0,0)) qB78 hb);have n2_:=qAm (blk_below (g:=gb252) (o:=.cells #[.int .i64 0,.slice none 0 0] 26 (0,0)) qB79 hb);have n3_:=qAm (below_step qB33 hb);clear BK251;clear BK252;clear HB;have HO258:=n0_;have BK251:=n1_;have BK252:=n2_;have HB:=n3_;clear n0_ n1_ n2_ n3_;(try clear hb);(try clear hb2);(try clear hk);(try clear hi);(try clear ho0))|((with_reducible refine gate_dst (N:=6) rfl ?_);refine box_event ?hg (N:=6) ?hd (cs:=#[.int .i64 0,.slice none 0 0]) (t:=26) ?hr ?_;(case hd=>rfl);(case hg=>rfl);(case hr=>first|(go_simp;done)|(go_simp;rfl));intro gb259 hg w15 hbox hb;have n0_:=qAm (Kd.R_below (by (with_reducible repeat(first|apply Kd.R_alloc|apply Kd.R_drewN|apply Kd.R_drew));exact HO258.1) hb);have n1_:=qAm (blk_below (g:=gb251) (o:=.cells #[.int .i64 a0_0,.slice A0_1 l0_1.length c0_1] 26 (0,0)) qB78 hb);have n2_:=qAm (blk_below (g:=gb252) (o:=.cells #[.int .i64 0,.slice none 0 0] 26 (0,0)) qB79 hb);have n3_:=qAm (below_step qB33 hb);have n4_:=qAm (hbox);have n5_:=qAm ((by rw [hg];exact(below_size qB33):w.heap.size≤gb259));have n6_:=qAm ((by rw [hg];exact(below_size qB33):w.heap.size≤gb259));have n7_:=qAm ((by rw [hg];exact Nat.ne_of_lt (blk_lt (g:=gb251) (o:=.cells #[.int .i64 a0_0,.slice A0_1 l0_1.length c0_1] 26 (0,0)) qB78):gb251≠gb259));have n8_:=qAm ((by rw [hg];exact Nat.ne_of_gt (blk_lt (g:=gb251) (o:=.cells #[.int .i64 a0_0,.slice A0_1 l0_1.length c0_1] 26 (0,0)) qB78):gb259≠gb251));have n9_:=qAm ((by rw [hg];exact Nat.ne_of_lt (blk_lt (g:=gb252) (o:=.cells #[.int .i64 0,.slice none 0 0] 26 (0,0)) qB79):gb252≠gb259));have n10_:=qAm ((by rw [hg];exact Nat.ne_of_gt (blk_lt (g:=gb252) (o:=.cells #[.int .i64 0,.slice none 0 0] 26 (0,0)) qB79):gb259≠gb252));clear HO258;clear BK251;clear BK252;clear HB;have HO258:=n0_;have BK251:=n1_;have BK252:=n2_;have HB:=n3_;have BK259:=n4_;have GW259:=n5_;have GE259:=n6_;have NB251_259:=n7_;have NB259_251:=n8_;have NB252_259:=n9_;have NB259_252:=n10_;clear n0_ n1_ n2_ n3_ n4_ n5_ n6_ n7_ n8_ n9_ n10_;clear hb hbox hg;have hnb16:=NB259_251.1;have hnc16:=NB251_259.1;have hnb17:=NB259_252.1;have hnc17:=NB252_259.1;have hcz18_0:w15.cell? ⟨gb259,0,none⟩=some (.int .i64 0):=(blk_cell BK259.1 0).trans rfl;have hcz18_1:w15.cell? ⟨gb259,1,none⟩=some (.slice none 0 0):=(blk_cell BK259.1 1).trans rfl;have hfz18_0:=blk_frozen BK259.1 0;have hfz18_1:=blk_frozen BK259.1 1;obtain⟨Ao19,co19,eo19⟩:=Kd.R_slice HO258.1;subst eo19));try simp only [Act.put,qSa,qSc,qSb]
   go_loopg [1] k (fun kq v1 w'=>∃(x1_1:Int) (x253000_1:Int) (x260000_1:Int) (x260001_1:List Int) (u260001:Value),v1=.int .i64 x1_1∧Aside0 (spec_PowerCyclo.l0 kq x1_1 a0_0 l0_1 x260000_1 x260001_1=some (r1,r2,r3))∧Aside0 (kq≤k)∧Aside0 (Kd.R (Kd.int .i64) 2 w' w.heap.size (fun _=>True) u260001 x260001_1)∧Aside0 (w'.heap[gb251]? =some (.cells #[.int .i64 a0_0,(.slice A0_1 l0_1.length c0_1)] 26 (0,0)))∧Aside0 (w'.heap[gb252]? =some (.cells #[.int .i64 x253000_1,(.slice none 0 0)] 26 (0,0)))∧Aside0 (w'.heap[gb259]? =some (.cells #[.int .i64 x260000_1,u260001] 26 (0,0)))∧Aside0 (Below w.heap.size w w'))
   case atStart=>exact⟨(a1),(0),(t255),(t256),(.slice Ao19 t256.length co19),qB119,H',⟨Nat.le_refl _⟩,⟨by (with_reducible repeat(first|apply Kd.R_alloc|apply Kd.R_drewN|apply Kd.R_drew));exact Kd.R_mono (Kd.R_far (p:=⟨gb259,1,none⟩) (Kd.R_far (p:=⟨gb259,0,none⟩) (Kd.R_types HO258.1 BK259.1 (by decide)) (fun _ hk=>hk.2) (.int .i64 t255)) (fun _ hk=>hk.2) (.slice Ao19 t256.length co19)) (fun _ hk=>trivial)⟩,⟨by (with_reducible repeat(first|refine blk_drewN ?_ _|refine blk_drew ?_|refine blk_alloc ?_ _));refine blk_far ?_ NB251_259.1 _;(with_reducible repeat(first|refine blk_drewN ?_ _|refine blk_drew ?_|refine blk_alloc ?_ _));refine blk_far ?_ NB251_259.1 _;(with_reducible repeat(first|refine blk_drewN ?_ _|refine blk_drew ?_|refine blk_alloc ?_ _));exact BK251.1⟩,⟨by (with_reducible repeat(first|refine blk_drewN ?_ _|refine blk_drew ?_|refine blk_alloc ?_ _));refine blk_far ?_ NB252_259.1 _;(with_reducible repeat(first|refine blk_drewN ?_ _|refine blk_drew ?_|refine blk_alloc ?_ _));refine blk_far ?_ NB252_259.1 _;(with_reducible repeat(first|refine blk_drewN ?_ _|refine blk_drew ?_|refine blk_alloc ?_ _));exact BK252.1⟩,⟨by (with_reducible repeat(first|refine blk_drewN ?_ _|refine blk_drew ?_|refine blk_alloc ?_ _));refine blk_put (cs:=#[.int .i64 t255,.slice none 0 0]) ?_ 1 _ rfl;(with_reducible repeat(first|refine blk_drewN ?_ _|refine blk_drew ?_|refine blk_alloc ?_ _));refine blk_put (cs:=#[.int .i64 0,.slice none 0 0]) ?_ 0 _ rfl;(with_reducible repeat(first|refine blk_drewN ?_ _|refine blk_drew ?_|refine blk_alloc ?_ _));exact BK259.1⟩,⟨by repeat(first|(with_reducible first|exact HB.1|apply below_alloc|apply pw_below_drewN|apply below_drew1|refine below_set ?_ GE251.1|refine below_set ?_ GE252.1|refine below_set ?_ GE259.1)|exact HB.1)⟩⟩
   case round=>
    clear H';try clear c1
    try clear p2
    try clear c4
    try clear c6
    try clear c10
    try clear c16
    try clear c17
    try clear c18
    try clear hcz11_0
    try clear hcz11_1
    try clear hcz13_0
    try clear hcz13_1
    try clear hcz18_0
    try clear hcz18_1
    try clear hfz11_0
    try clear hfz11_1
    try clear hfz13_0
    try clear hfz13_1
    try clear hfz18_0
    try clear hfz18_1
    obtain⟨x1_1,x253000_1,x260000_1,x260001_1,u260001,rfl,HA,HK1,HO_260001,BK251,BK252,BK259,HB⟩:=hrel;cases gk with
    |zero=>exact absurd HA.1 (by simp [spec_PowerCyclo.l0])
    |succ k1=>
     have H:=HA.1;clear HA;simp only [spec_PowerCyclo.l0] at H
     by_cases c20:x1_1 > 0
     ·rw [if_pos c20] at H;have c20b0:decide (0<x1_1)=true:=decide_eq_true c20;clear c20;replace H:=qOb H;obtain⟨⟨t260,t261,t264⟩,A210,H⟩:=H;replace H:(if t264=true then (spec_PowerCyclo.l0 k1 (wrap64 (x1_1 - 1)) a0_0 l0_1 t260 t261) else (some (0,([]:List Int),3)))=some (r1,r2,r3):=H;have A21:=qAm A210;clear A210
      by_cases c22:t264=true
      ·subst c22;have H1:(spec_PowerCyclo.l0 k1 (wrap64 (x1_1 - 1)) a0_0 l0_1 t260 t261)=some (r1,r2,r3):=by rw [if_pos rfl] at H;exact H
       clear H;have H:=H1;clear H1;have H':=qAm H;clear H;have hnb23:=NB259_251.1;have hnc23:=NB251_259.1;have hnb24:=NB259_252.1;have hnc24:=NB252_259.1;have hcz25_0:wr.cell? ⟨gb259,0,none⟩=some (.int .i64 x260000_1):=(blk_cell BK259.1 0).trans rfl;have hcz25_1:wr.cell? ⟨gb259,1,none⟩=some (u260001):=(blk_cell BK259.1 1).trans rfl;have hfz25_0:=blk_frozen BK259.1 0;have hfz25_1:=blk_frozen BK259.1 1;have hnb26:=NB251_252.1;have hnc26:=NB252_251.1;have hcz27_0:wr.cell? ⟨gb251,0,none⟩=some (.int .i64 a0_0):=(blk_cell BK251.1 0).trans rfl;have hcz27_1:wr.cell? ⟨gb251,1,none⟩=some (.slice A0_1 l0_1.length c0_1):=(blk_cell BK251.1 1).trans rfl;have hfz27_0:=blk_frozen BK251.1 0;have hfz27_1:=blk_frozen BK251.1 1;obtain⟨Ao28,co28,eo28⟩:=Kd.R_slice HO_260001.1;subst eo28;go_wp2_with (first|((with_reducible refine gate_callee (f:=37) rfl ?_);refine goesL_ (some 28) rfl rfl Try.func37 (by kernel_rfl) rfl #[.agg #[.int .i64 x260000_1,.slice Ao28 x260001_1.length co28],.agg #[.int .i64 a0_0,.slice A0_1 l0_1.length c0_1]] rfl qB60 ?_;(with_reducible refine(spec_l01Times.calls k1 x260000_1 _ _ x260001_1 a0_0 _ _ l0_1 t260 t261 true _ ?side1 ?side2 ?side3 ?side4 A21.1).mono ?_);(case side1=>repeat(first|exact(Kd.R_reads' HO_260001.1).2.2|(with_reducible refine Kd.C_alloc ?_ _)|(with_reducible refine Kd.C_drewN ?_ _)|(with_reducible refine Kd.C_drew ?_)));(case side2=>exact(Kd.R_reads' HO_260001.1).2.1);(case side3=>repeat(first|exact(Kd.C_below HR0_1.1 HB.1)|(with_reducible refine Kd.C_alloc ?_ _)|(with_reducible refine Kd.C_drewN ?_ _)|(with_reducible refine Kd.C_drew ?_)));(case side4=>exact HC0_1.1);rintro e w29 ⟨v262,rfl,ho0,hb⟩;refine⟨_,rfl,?_⟩;have n0_:=qAm (Kd.R_elder' qB91 (Kd.R_base ho0) hb);have n1_:=qAm (Kd.R_lower (Kd.R_new' ho0 (Kd.R_lt qB91)) (below_size qB26));have n2_:=qAm (blk_below (g:=gb251) (o:=.cells #[.int .i64 a0_0,.slice A0_1 l0_1.length c0_1] 26 (0,0)) qB78 hb);have n3_:=qAm (blk_below (g:=gb252) (o:=.cells #[.int .i64 x253000_1,.slice none 0 0] 26 (0,0)) qB79 hb);have n4_:=qAm (blk_below (g:=gb259) (o:=.cells #[.int .i64 x260000_1,.slice Ao28 x260001_1.length co28] 26 (0,0)) qB80 hb);have n5_:=qAm (below_step qB26 hb);clear HO_260001;clear BK251;clear BK252;clear BK259;clear HB;have HO_260001:=n0_;have HO263:=n1_;have BK251:=n2_;have BK252:=n3_;have BK259:=n4_;have HB:=n5_;clear n0_ n1_ n2_ n3_ n4_ n5_;(try clear hb);(try clear hb2);(try clear hk);(try clear hi);(try clear ho0);have hcz30_0:w29.cell? ⟨gb259,0,none⟩=some (.int .i64 x260000_1):=(blk_cell BK259.1 0).trans rfl;have hcz30_1:w29.cell? ⟨gb259,1,none⟩=some (.slice Ao28 x260001_1.length co28):=(blk_cell BK259.1 1).trans rfl;have hfz30_0:=blk_frozen BK259.1 0;have hfz30_1:=blk_frozen BK259.1 1;obtain⟨Ao31,co31,eo31⟩:=Kd.R_slice HO263.1;subst eo31))
       (first|go_roundg k1|((try simp only [add_plain] at *);go_roundg k1))
       case measure=>have:=HK1.1;omega
       case rel=>exact⟨(wrap64 (x1_1 - 1)),(x253000_1),(t260),(t261),(.slice Ao31 t261.length co31),qB119,H',⟨by have:=HK1.1;omega⟩,⟨by (with_reducible repeat(first|apply Kd.R_alloc|apply Kd.R_drewN|apply Kd.R_drew));exact Kd.R_mono (Kd.R_far (p:=⟨gb259,1,none⟩) (Kd.R_far (p:=⟨gb259,0,none⟩) (Kd.R_types HO263.1 BK259.1 (by decide)) (fun _ hk=>hk.2) (.int .i64 t260)) (fun _ hk=>hk.2) (.slice Ao31 t261.length co31)) (fun _ hk=>trivial)⟩,⟨by (with_reducible repeat(first|refine blk_drewN ?_ _|refine blk_drew ?_|refine blk_alloc ?_ _));refine blk_far ?_ NB251_259.1 _;(with_reducible repeat(first|refine blk_drewN ?_ _|refine blk_drew ?_|refine blk_alloc ?_ _));refine blk_far ?_ NB251_259.1 _;(with_reducible repeat(first|refine blk_drewN ?_ _|refine blk_drew ?_|refine blk_alloc ?_ _));exact BK251.1⟩,⟨by (with_reducible repeat(first|refine blk_drewN ?_ _|refine blk_drew ?_|refine blk_alloc ?_ _));refine blk_far ?_ NB252_259.1 _;(with_reducible repeat(first|refine blk_drewN ?_ _|refine blk_drew ?_|refine blk_alloc ?_ _));refine blk_far ?_ NB252_259.1 _;(with_reducible repeat(first|refine blk_drewN ?_ _|refine blk_drew ?_|refine blk_alloc ?_ _));exact BK252.1⟩,⟨by (with_reducible repeat(first|refine blk_drewN ?_ _|refine blk_drew ?_|refine blk_alloc ?_ _));refine blk_put (cs:=#[.int .i64 t260,.slice Ao28 x260001_1.length co28]) ?_ 1 _ rfl;(with_reducible repeat(first|refine blk_drewN ?_ _|refine blk_drew ?_|refine blk_alloc ?_ _));refine blk_put (cs:=#[.int .i64 x260000_1,.slice Ao28 x260001_1.length co28]) ?_ 0 _ rfl;(with_reducible repeat(first|refine blk_drewN ?_ _|refine blk_drew ?_|refine blk_alloc ?_ _));exact BK259.1⟩,⟨by repeat(first|(with_reducible first|exact HB.1|apply below_alloc|apply pw_below_drewN|apply below_drew1|refine below_set ?_ GE251.1|refine below_set ?_ GE252.1|refine below_set ?_ GE259.1)|exact HB.1)⟩⟩
      ·replace c22:=Bool.eq_false_iff.mpr c22;subst c22;have H1:(some (0,([]:List Int),3))=some (r1,r2,r3):=by rw [if_neg (show ¬(false=true) by decide)] at H;exact H
       clear H;have H:=H1;clear H1;simp only [Option.some.injEq,Prod.mk.injEq] at H;obtain⟨rfl,rfl,rfl⟩:=H;have hnb32:=NB259_251.1;have hnc32:=NB251_259.1;have hnb33:=NB259_252.1;have hnc33:=NB252_259.1;have hcz34_0:wr.cell? ⟨gb259,0,none⟩=some (.int .i64 x260000_1):=(blk_cell BK259.1 0).trans rfl;have hcz34_1:wr.cell? ⟨gb259,1,none⟩=some (u260001):=(blk_cell BK259.1 1).trans rfl;have hfz34_0:=blk_frozen BK259.1 0;have hfz34_1:=blk_frozen BK259.1 1;have hnb35:=NB251_252.1;have hnc35:=NB252_251.1;have hcz36_0:wr.cell? ⟨gb251,0,none⟩=some (.int .i64 a0_0):=(blk_cell BK251.1 0).trans rfl;have hcz36_1:wr.cell? ⟨gb251,1,none⟩=some (.slice A0_1 l0_1.length c0_1):=(blk_cell BK251.1 1).trans rfl;have hfz36_0:=blk_frozen BK251.1 0;have hfz36_1:=blk_frozen BK251.1 1;obtain⟨Ao37,co37,eo37⟩:=Kd.R_slice HO_260001.1;subst eo37;go_wp2_with (first|((with_reducible refine gate_callee (f:=37) rfl ?_);refine goesL_ (some 28) rfl rfl Try.func37 (by kernel_rfl) rfl #[.agg #[.int .i64 x260000_1,.slice Ao37 x260001_1.length co37],.agg #[.int .i64 a0_0,.slice A0_1 l0_1.length c0_1]] rfl qB60 ?_;(with_reducible refine(spec_l01Times.calls k1 x260000_1 _ _ x260001_1 a0_0 _ _ l0_1 t260 t261 false _ ?side1 ?side2 ?side3 ?side4 A21.1).mono ?_);(case side1=>repeat(first|exact(Kd.R_reads' HO_260001.1).2.2|(with_reducible refine Kd.C_alloc ?_ _)|(with_reducible refine Kd.C_drewN ?_ _)|(with_reducible refine Kd.C_drew ?_)));(case side2=>exact(Kd.R_reads' HO_260001.1).2.1);(case side3=>repeat(first|exact(Kd.C_below HR0_1.1 HB.1)|(with_reducible refine Kd.C_alloc ?_ _)|(with_reducible refine Kd.C_drewN ?_ _)|(with_reducible refine Kd.C_drew ?_)));(case side4=>exact HC0_1.1);rintro e w38 ⟨v262,rfl,ho0,hb⟩;refine⟨_,rfl,?_⟩;have n0_:=qAm (Kd.R_elder' qB91 (Kd.R_base ho0) hb);have n1_:=qAm (Kd.R_lower (Kd.R_new' ho0 (Kd.R_lt qB91)) (below_size qB26));have n2_:=qAm (blk_below (g:=gb251) (o:=.cells #[.int .i64 a0_0,.slice A0_1 l0_1.length c0_1] 26 (0,0)) qB78 hb);have n3_:=qAm (blk_below (g:=gb252) (o:=.cells #[.int .i64 x253000_1,.slice none 0 0] 26 (0,0)) qB79 hb);have n4_:=qAm (blk_below (g:=gb259) (o:=.cells #[.int .i64 x260000_1,.slice Ao37 x260001_1.length co37] 26 (0,0)) qB80 hb);have n5_:=qAm (below_step qB26 hb);clear HO_260001;clear BK251;clear BK252;clear BK259;clear HB;have HO_260001:=n0_;have HO263:=n1_;have BK251:=n2_;have BK252:=n3_;have BK259:=n4_;have HB:=n5_;clear n0_ n1_ n2_ n3_ n4_ n5_;(try clear hb);(try clear hb2);(try clear hk);(try clear hi);(try clear ho0);have hcz39_0:w38.cell? ⟨gb259,0,none⟩=some (.int .i64 x260000_1):=(blk_cell BK259.1 0).trans rfl;have hcz39_1:w38.cell? ⟨gb259,1,none⟩=some (.slice Ao37 x260001_1.length co37):=(blk_cell BK259.1 1).trans rfl;have hfz39_0:=blk_frozen BK259.1 0;have hfz39_1:=blk_frozen BK259.1 1;obtain⟨Ao40,co40,eo40⟩:=Kd.R_slice HO263.1;subst eo40;have hcz41_0:w38.cell? ⟨gb252,0,none⟩=some (.int .i64 x253000_1):=(blk_cell BK252.1 0).trans rfl;have hcz41_1:w38.cell? ⟨gb252,1,none⟩=some (.slice none 0 0):=(blk_cell BK252.1 1).trans rfl;have hfz41_0:=blk_frozen BK252.1 0;have hfz41_1:=blk_frozen BK252.1 1));refine bodyPost_ret (results_ct rfl _ _ gb252 26 #[.int .i64 0,.slice none 0 0] (0,0) _ rfl (by (with_reducible repeat(first|refine blk_drewN ?_ _|refine blk_drew ?_|refine blk_alloc ?_ _));refine blk_put (cs:=#[.int .i64 0,.slice none 0 0]) ?_ 1 _ rfl;(with_reducible repeat(first|refine blk_drewN ?_ _|refine blk_drew ?_|refine blk_alloc ?_ _));refine blk_put (cs:=#[.int .i64 x253000_1,.slice none 0 0]) ?_ 0 _ rfl;(with_reducible repeat(first|refine blk_drewN ?_ _|refine blk_drew ?_|refine blk_alloc ?_ _));refine blk_far ?_ NB252_259.1 _;(with_reducible repeat(first|refine blk_drewN ?_ _|refine blk_drew ?_|refine blk_alloc ?_ _));refine blk_far ?_ NB252_259.1 _;(with_reducible repeat(first|refine blk_drewN ?_ _|refine blk_drew ?_|refine blk_alloc ?_ _));exact BK252.1) Try.underlying26 rfl (by kernel_rfl)) rfl ?_;exact⟨_,by first|rfl|(simp [errW_none,errW_some] <;> rfl)|(simp [*,errW_none,errW_some] <;> rfl),by first|exact Kd.R_nil _ _ _ _ _|exact Kd.N_nil _ _ _ _ _|exact Kd.V_nil _ _ _ _ _|exact Kd.Q_nil _ _ _ _ _|exact Kd.S_nil _ _ _ _ _,by repeat(first|(with_reducible first|exact HB.1|apply below_alloc|apply pw_below_drewN|apply below_drew1|refine below_set ?_ GE251.1|refine below_set ?_ GE252.1|refine below_set ?_ GE259.1)|exact HB.1)⟩
     ·rw [if_neg c20] at H;have c20b0:decide (0<x1_1)=false:=decide_eq_false c20;clear c20;simp only [Option.some.injEq,Prod.mk.injEq] at H;obtain⟨rfl,rfl,rfl⟩:=H;have hnb42:=NB259_251.1;have hnc42:=NB251_259.1;have hnb43:=NB259_252.1;have hnc43:=NB252_259.1;have hcz44_0:wr.cell? ⟨gb259,0,none⟩=some (.int .i64 x260000_1):=(blk_cell BK259.1 0).trans rfl;have hcz44_1:wr.cell? ⟨gb259,1,none⟩=some (u260001):=(blk_cell BK259.1 1).trans rfl;have hfz44_0:=blk_frozen BK259.1 0;have hfz44_1:=blk_frozen BK259.1 1;have hnb45:=NB252_251.1;have hnc45:=NB251_252.1;have hcz46_0:wr.cell? ⟨gb252,0,none⟩=some (.int .i64 x253000_1):=(blk_cell BK252.1 0).trans rfl;have hcz46_1:wr.cell? ⟨gb252,1,none⟩=some (.slice none 0 0):=(blk_cell BK252.1 1).trans rfl;have hfz46_0:=blk_frozen BK252.1 0;have hfz46_1:=blk_frozen BK252.1 1;obtain⟨Ao47,co47,eo47⟩:=Kd.R_slice HO_260001.1;subst eo47;go_wp2;refine bodyPost_ret (results_ct rfl _ _ gb252 26 #[.int .i64 x260000_1,.slice Ao47 x260001_1.length co47] (0,0) _ rfl (by (with_reducible repeat(first|refine blk_drewN ?_ _|refine blk_drew ?_|refine blk_alloc ?_ _));refine blk_put (cs:=#[.int .i64 x260000_1,.slice none 0 0]) ?_ 1 _ rfl;(with_reducible repeat(first|refine blk_drewN ?_ _|refine blk_drew ?_|refine blk_alloc ?_ _));refine blk_put (cs:=#[.int .i64 x253000_1,.slice none 0 0]) ?_ 0 _ rfl;(with_reducible repeat(first|refine blk_drewN ?_ _|refine blk_drew ?_|refine blk_alloc ?_ _));exact BK252.1) Try.underlying26 rfl (by kernel_rfl)) rfl ?_;exact⟨_,by first|rfl|(simp [errW_none,errW_some] <;> rfl)|(simp [*,errW_none,errW_some] <;> rfl),by (with_reducible repeat(first|apply Kd.R_alloc|apply Kd.R_drewN|apply Kd.R_drew));exact Kd.R_mono (Kd.R_far (p:=⟨gb252,1,none⟩) (Kd.R_far (p:=⟨gb252,0,none⟩) (Kd.R_types HO_260001.1 BK252.1 (by decide)) (fun _ hk=>hk.2) (.int .i64 x260000_1)) (fun _ hk=>hk.2) (.slice Ao47 x260001_1.length co47)) (fun _ hk=>trivial),by repeat(first|(with_reducible first|exact HB.1|apply below_alloc|apply pw_below_drewN|apply below_drew1|refine below_set ?_ GE251.1|refine below_set ?_ GE252.1|refine below_set ?_ GE259.1)|exact HB.1)⟩
  ·replace c6:=Bool.eq_false_iff.mpr c6;subst c6;have H1:(some (0,([]:List Int),2))=some (r1,r2,r3):=by rw [if_neg (show ¬(false=true) by decide)] at H;exact H
   clear H;have H:=H1;clear H1;simp only [Option.some.injEq,Prod.mk.injEq] at H;obtain⟨rfl,rfl,rfl⟩:=H;go_enter Try.func18,Try.ntmps18;go_wp2_with (first|((with_reducible refine gate_dst (N:=2) rfl ?_);refine box_event ?hg (N:=2) ?hd (cs:=#[.int .i64 a0_0,.slice A0_1 l0_1.length c0_1]) (t:=26) ?hr ?_;(case hd=>rfl);(case hg=>rfl);(case hr=>first|(go_simp;done)|(go_simp;rfl));intro gb251 hg w48 hbox hb;have n0_:=qAm (below_step qB61 hb);have n1_:=qAm (hbox);have n2_:=qAm ((by rw [hg];exact(below_size qB61):w.heap.size≤gb251));have n3_:=qAm ((by rw [hg];exact(below_size qB61):w.heap.size≤gb251));clear HB;have HB:=n0_;have BK251:=n1_;have GW251:=n2_;have GE251:=n3_;clear n0_ n1_ n2_ n3_;clear hb hbox hg)|((with_reducible refine gate_dst (N:=4) rfl ?_);refine box_event ?hg (N:=4) ?hd (cs:=#[.int .i64 0,.slice none 0 0]) (t:=26) ?hr ?_;(case hd=>rfl);(case hg=>rfl);(case hr=>first|(go_simp;done)|(go_simp;rfl));intro gb252 hg w49 hbox hb;have n0_:=qAm (blk_below (g:=gb251) (o:=.cells #[.int .i64 a0_0,.slice A0_1 l0_1.length c0_1] 26 (0,0)) qB78 hb);have n1_:=qAm (below_step qB46 hb);have n2_:=qAm (hbox);have n3_:=qAm ((by rw [hg];exact(below_size qB46):w.heap.size≤gb252));have n4_:=qAm ((by rw [hg];exact(below_size qB46):w.heap.size≤gb252));have n5_:=qAm ((by rw [hg];exact Nat.ne_of_lt (blk_lt (g:=gb251) (o:=.cells #[.int .i64 a0_0,.slice A0_1 l0_1.length c0_1] 26 (0,0)) qB78):gb251≠gb252));have n6_:=qAm ((by rw [hg];exact Nat.ne_of_gt (blk_lt (g:=gb251) (o:=.cells #[.int .i64 a0_0,.slice A0_1 l0_1.length c0_1] 26 (0,0)) qB78):gb252≠gb251));clear BK251;clear HB;have BK251:=n0_;have HB:=n1_;have BK252:=n2_;have GW252:=n3_;have GE252:=n4_;have NB251_252:=n5_;have NB252_251:=n6_;clear n0_ n1_ n2_ n3_ n4_ n5_ n6_;clear hb hbox hg;have hnb50:=NB251_252.1;have hnc50:=NB252_251.1;have hcz51_0:w49.cell? ⟨gb251,0,none⟩=some (.int .i64 a0_0):=(blk_cell BK251.1 0).trans rfl;have hcz51_1:w49.cell? ⟨gb251,1,none⟩=some (.slice A0_1 l0_1.length c0_1):=(blk_cell BK251.1 1).trans rfl;have hfz51_0:=blk_frozen BK251.1 0;have hfz51_1:=blk_frozen BK251.1 1)|((with_reducible refine gate_callee (f:=43) rfl ?_);refine goesL_ (some 10) rfl rfl Try.func43 (by kernel_rfl) rfl #[.agg #[.int .i64 a0_0,.slice A0_1 l0_1.length c0_1]] rfl qB60 ?_;(with_reducible refine(spec_l01Is.calls k a0_0 _ _ l0_1 true _ ?side1 ?side2 A3.1).mono ?_);(case side1=>repeat(first|exact(Kd.C_below HR0_1.1 HB.1)|(with_reducible refine Kd.C_alloc ?_ _)|(with_reducible refine Kd.C_drewN ?_ _)|(with_reducible refine Kd.C_drew ?_)));(case side2=>exact HC0_1.1);rintro e w52 ⟨rfl,hb⟩;refine⟨_,rfl,?_⟩;have n0_:=qAm (blk_below (g:=gb251) (o:=.cells #[.int .i64 a0_0,.slice A0_1 l0_1.length c0_1] 26 (0,0)) qB78 hb);have n1_:=qAm (blk_below (g:=gb252) (o:=.cells #[.int .i64 0,.slice none 0 0] 26 (0,0)) qB79 hb);have n2_:=qAm (below_step qB33 hb);clear BK251;clear BK252;clear HB;have BK251:=n0_;have BK252:=n1_;have HB:=n2_;clear n0_ n1_ n2_;(try clear hb);(try clear hb2);(try clear hk);(try clear hi))|((with_reducible refine gate_callee (f:=44) rfl ?_);refine goesL_ (some 15) rfl rfl Try.func44 (by kernel_rfl) rfl #[.int .i64 a1,.int .i64 0,.int .i64 64] rfl qB60 ?_;(with_reducible refine(spec_l01In.calls a1 0 64 false _ A5.1).mono ?_);rintro e w' ⟨rfl,⟨nd,rfl⟩⟩;refine⟨_,rfl,?_⟩;(try(rw [drewN_self w52];generalize hq_:World.drewN w52 _=w52;have n0_:Aside0 (w52.heap[gb251]? =some (.cells #[.int .i64 a0_0,.slice A0_1 l0_1.length c0_1] 26 (0,0))):=⟨by rw [← hq_];exact qB78⟩;have n1_:Aside0 (w52.heap[gb252]? =some (.cells #[.int .i64 0,.slice none 0 0] 26 (0,0))):=⟨by rw [← hq_];exact qB79⟩;have n2_:Aside0 (Below w.heap.size w w52):=⟨by rw [← hq_];exact qB33⟩;clear BK251 BK252 HB hq_;have BK251:=n0_;have BK252:=n1_;have HB:=n2_;clear n0_ n1_ n2_));have hcz53_0:w52.cell? ⟨gb252,0,none⟩=some (.int .i64 0):=(blk_cell BK252.1 0).trans rfl;have hcz53_1:w52.cell? ⟨gb252,1,none⟩=some (.slice none 0 0):=(blk_cell BK252.1 1).trans rfl;have hfz53_0:=blk_frozen BK252.1 0;have hfz53_1:=blk_frozen BK252.1 1));refine bodyPost_ret (results_ct rfl _ _ gb252 26 #[.int .i64 0,.slice none 0 0] (0,0) _ rfl qB7 Try.underlying26 rfl (by kernel_rfl)) rfl ?_;exact⟨_,by first|rfl|(simp [errW_none,errW_some] <;> rfl)|(simp [*,errW_none,errW_some] <;> rfl),by first|exact Kd.R_nil _ _ _ _ _|exact Kd.N_nil _ _ _ _ _|exact Kd.V_nil _ _ _ _ _|exact Kd.Q_nil _ _ _ _ _|exact Kd.S_nil _ _ _ _ _,by repeat(first|(with_reducible first|exact HB.1|apply below_alloc|apply pw_below_drewN|apply below_drew1|refine below_set ?_ GE251.1|refine below_set ?_ GE252.1)|exact HB.1)⟩
 ·replace c4:=Bool.eq_false_iff.mpr c4;subst c4;have H1:(some (0,([]:List Int),1))=some (r1,r2,r3):=by rw [if_neg (show ¬(false=true) by decide)] at H;exact H
  clear H;have H:=H1;clear H1;simp only [Option.some.injEq,Prod.mk.injEq] at H;obtain⟨rfl,rfl,rfl⟩:=H;go_enter Try.func18,Try.ntmps18;go_wp2_with (first|((with_reducible refine gate_dst (N:=2) rfl ?_);refine box_event ?hg (N:=2) ?hd (cs:=#[.int .i64 a0_0,.slice A0_1 l0_1.length c0_1]) (t:=26) ?hr ?_;(case hd=>rfl);(case hg=>rfl);(case hr=>first|(go_simp;done)|(go_simp;rfl));intro gb251 hg w54 hbox hb;have n0_:=qAm (below_step qB61 hb);have n1_:=qAm (hbox);have n2_:=qAm ((by rw [hg];exact(below_size qB61):w.heap.size≤gb251));have n3_:=qAm ((by rw [hg];exact(below_size qB61):w.heap.size≤gb251));clear HB;have HB:=n0_;have BK251:=n1_;have GW251:=n2_;have GE251:=n3_;clear n0_ n1_ n2_ n3_;clear hb hbox hg)|((with_reducible refine gate_dst (N:=4) rfl ?_);refine box_event ?hg (N:=4) ?hd (cs:=#[.int .i64 0,.slice none 0 0]) (t:=26) ?hr ?_;(case hd=>rfl);(case hg=>rfl);(case hr=>first|(go_simp;done)|(go_simp;rfl));intro gb252 hg w55 hbox hb;have n0_:=qAm (blk_below (g:=gb251) (o:=.cells #[.int .i64 a0_0,.slice A0_1 l0_1.length c0_1] 26 (0,0)) qB78 hb);have n1_:=qAm (below_step qB46 hb);have n2_:=qAm (hbox);have n3_:=qAm ((by rw [hg];exact(below_size qB46):w.heap.size≤gb252));have n4_:=qAm ((by rw [hg];exact(below_size qB46):w.heap.size≤gb252));have n5_:=qAm ((by rw [hg];exact Nat.ne_of_lt (blk_lt (g:=gb251) (o:=.cells #[.int .i64 a0_0,.slice A0_1 l0_1.length c0_1] 26 (0,0)) qB78):gb251≠gb252));have n6_:=qAm ((by rw [hg];exact Nat.ne_of_gt (blk_lt (g:=gb251) (o:=.cells #[.int .i64 a0_0,.slice A0_1 l0_1.length c0_1] 26 (0,0)) qB78):gb252≠gb251));clear BK251;clear HB;have BK251:=n0_;have HB:=n1_;have BK252:=n2_;have GW252:=n3_;have GE252:=n4_;have NB251_252:=n5_;have NB252_251:=n6_;clear n0_ n1_ n2_ n3_ n4_ n5_ n6_;clear hb hbox hg;have hnb56:=NB251_252.1;have hnc56:=NB252_251.1;have hcz57_0:w55.cell? ⟨gb251,0,none⟩=some (.int .i64 a0_0):=(blk_cell BK251.1 0).trans rfl;have hcz57_1:w55.cell? ⟨gb251,1,none⟩=some (.slice A0_1 l0_1.length c0_1):=(blk_cell BK251.1 1).trans rfl;have hfz57_0:=blk_frozen BK251.1 0;have hfz57_1:=blk_frozen BK251.1 1)|((with_reducible refine gate_callee (f:=43) rfl ?_);refine goesL_ (some 10) rfl rfl Try.func43 (by kernel_rfl) rfl #[.agg #[.int .i64 a0_0,.slice A0_1 l0_1.length c0_1]] rfl qB60 ?_;(with_reducible refine(spec_l01Is.calls k a0_0 _ _ l0_1 false _ ?side1 ?side2 A3.1).mono ?_);(case side1=>repeat(first|exact(Kd.C_below HR0_1.1 HB.1)|(with_reducible refine Kd.C_alloc ?_ _)|(with_reducible refine Kd.C_drewN ?_ _)|(with_reducible refine Kd.C_drew ?_)));(case side2=>exact HC0_1.1);rintro e w58 ⟨rfl,hb⟩;refine⟨_,rfl,?_⟩;have n0_:=qAm (blk_below (g:=gb251) (o:=.cells #[.int .i64 a0_0,.slice A0_1 l0_1.length c0_1] 26 (0,0)) qB78 hb);have n1_:=qAm (blk_below (g:=gb252) (o:=.cells #[.int .i64 0,.slice none 0 0] 26 (0,0)) qB79 hb);have n2_:=qAm (below_step qB33 hb);clear BK251;clear BK252;clear HB;have BK251:=n0_;have BK252:=n1_;have HB:=n2_;clear n0_ n1_ n2_;(try clear hb);(try clear hb2);(try clear hk);(try clear hi);have hcz59_0:w58.cell? ⟨gb252,0,none⟩=some (.int .i64 0):=(blk_cell BK252.1 0).trans rfl;have hcz59_1:w58.cell? ⟨gb252,1,none⟩=some (.slice none 0 0):=(blk_cell BK252.1 1).trans rfl;have hfz59_0:=blk_frozen BK252.1 0;have hfz59_1:=blk_frozen BK252.1 1));refine bodyPost_ret (results_ct rfl _ _ gb252 26 #[.int .i64 0,.slice none 0 0] (0,0) _ rfl qB7 Try.underlying26 rfl (by kernel_rfl)) rfl ?_;exact⟨_,by first|rfl|(simp [errW_none,errW_some] <;> rfl)|(simp [*,errW_none,errW_some] <;> rfl),by first|exact Kd.R_nil _ _ _ _ _|exact Kd.N_nil _ _ _ _ _|exact Kd.V_nil _ _ _ _ _|exact Kd.Q_nil _ _ _ _ _|exact Kd.S_nil _ _ _ _ _,by repeat(first|(with_reducible first|exact HB.1|apply below_alloc|apply pw_below_drewN|apply below_drew1|refine below_set ?_ GE251.1|refine below_set ?_ GE252.1)|exact HB.1)⟩

end Go.Proofs.Ythljmbobccaalaa.PFnExactPowerCyclo
