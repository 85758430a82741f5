/- The functions that the law reaches, as plain functions, each with the proof that the program comes to it; no condition. Written by a program of this session (wip/mp.py) over the printing of the kit; what is marked HAND is told by hand. -/
import Derived.Test.YtejpliodhnglbaaPFnExactCubicSymbolx0
import Derived.Test.YtejpliodhnglbaaPFnExactCubicSymbolx2
namespace Go.Proofs.Ytejpliodhnglbaa.PFnExactCubicSymbol
open Go.RowKit Go.Proofs.YtejpliodhnglbaaW.PrintWords Go.Proofs.YtejpliodhnglbaaW.PrintLast Go.Proofs.YtejpliodhnglbaaW.PrintMore
attribute [local go_sem] max2_int min2_int max_two min_two max_three min_three max_four min_four   -- for this text's walks alone
set_option linter.unusedVariables false
set_option linter.unusedSimpArgs false

/-! ### spec_l01Is: function 65 -/
def spec_l01Is.f (k:Nat) (a0_0:Int) (l0_1:List Int):Option (Bool):=(spec_l01In.f a0_0 1 16).bind fun t129=>(if t129=true then ((spec_l01Phi.f k a0_0).bind fun t130=>(if (l0_1.length:Int)=t130 then ((spec_l01Fits.f k a0_0 l0_1).bind fun t131=>(some t131)) else (some false))) else (some false))
theorem spec_l01Is.mono:∀a0 a1 k,LeO (spec_l01Is.f k a0 a1) (spec_l01Is.f (k+1) a0 a1):=by
 intro a0 a1 k;unfold spec_l01Is.f;repeat' first
   |(with_reducible exact spec_l01Fits.mono _ _ _)
   |(with_reducible exact spec_l01Phi.mono _ _)
   |(with_reducible exact LeO.refl _)
   |(with_reducible exact LeO.none _)
   |(with_reducible refine LeO.ite ?_ ?_)
   |(with_reducible refine LeO.bind ?_ (fun _=>?_))
   |exact spec_l01Fits.mono _ _ _
   |exact spec_l01Phi.mono _ _
   |exact LeO.none _
   |refine LeO.ite ?_ ?_
   |refine LeO.bind ?_ (fun _=>?_)
def spec_l01Is.T1:Bool×List (List Nat×List Nat):=(true,[([],[]),([0],[0]),([1],[1]),([2,2],[2]),([3],[3]),([4,3],[3,4]),([5,3],[3,5]),([3],[3]),([7,3],[3,7]),([8,3,3],[3,8]),([6,9,3],[3,6,9]),([3,10],[3,10]),([11,9],[11]),([12],[12]),([13,12,12],[12,13]),([12,14],[12,14]),([15,14,0,1,2,3,4,5,6,7,8,9,10,11,12,13,14,15],[15])])
def spec_l01Is.B1:List Nat:=[0,1,3,7,15,31,63,15,143,399,1023,2047,4095,8191,16383,32767,65535]
theorem spec_l01Is.tab1:rtab .any (opsOf Try.f65 1)=spec_l01Is.T1:=by kernel_rfl
theorem spec_l01Is.bits1:waitsOk spec_l01Is.T1.2 spec_l01Is.B1=true:=by kernel_rfl
set_option maxHeartbeats 8000000 in
set_option maxRecDepth 100000 in
theorem spec_l01Is.calls (k:Nat) (a0_0:Int) (A0_1:Option Addr) (c0_1:Nat) (l0_1:List Int) (r:Bool) (w:World) (hr0_1:Kd.C (Kd.int .i64) w A0_1 l0_1.length l0_1) (hc0_1:l0_1.length≤c0_1) (h:spec_l01Is.f k a0_0 l0_1=some r):
  Calls Try.prog 65 #[.agg #[.int .i64 a0_0,.slice A0_1 l0_1.length c0_1]] w fun e w'=>e=.returned (.bool r)∧Below w.heap.size w w':=by
 have hu26:=Try.underlying26;have HR0_1:=qAm hr0_1;have HC0_1:=qAm hc0_1;clear hr0_1 hc0_1;have HB:=qAm (Below.refl w.heap.size w);have H:((spec_l01In.f a0_0 1 16).bind fun t129=>(if t129=true then ((spec_l01Phi.f k a0_0).bind fun t130=>(if (l0_1.length:Int)=t130 then ((spec_l01Fits.f k a0_0 l0_1).bind fun t131=>(some t131)) else (some false))) else (some false)))=some r:=h;clear h;replace H:=qOb H;obtain⟨t129,A20,H⟩:=H;replace H:(if t129=true then ((spec_l01Phi.f k a0_0).bind fun t130=>(if (l0_1.length:Int)=t130 then ((spec_l01Fits.f k a0_0 l0_1).bind fun t131=>(some t131)) else (some false))) else (some false))=some r:=H;have A2:=qAm A20;clear A20
 by_cases c3:t129=true
 ·subst c3;have H1:((spec_l01Phi.f k a0_0).bind fun t130=>(if (l0_1.length:Int)=t130 then ((spec_l01Fits.f k a0_0 l0_1).bind fun t131=>(some t131)) else (some false)))=some r:=by rw [if_pos rfl] at H;exact H
  clear H;have H:=H1;clear H1;replace H:=qOb H;obtain⟨t130,A40,H⟩:=H;replace H:(if (l0_1.length:Int)=t130 then ((spec_l01Fits.f k a0_0 l0_1).bind fun t131=>(some t131)) else (some false))=some r:=H;have A4:=qAm A40;clear A40
  by_cases c5:(l0_1.length:Int)=t130
  ·rw [if_pos c5] at H;have c5b0:((l0_1.length:Int)==t130)=true:=beq_iff_eq.mpr c5;have c5b1:((l0_1.length:Int) !=t130)=false:=bne_eq_false_iff_eq.mpr c5;clear c5;replace H:=qOb H;obtain⟨t131,A60,H⟩:=H;replace H:(some t131)=some r:=H;have A6:=qAm A60;clear A60;obtain rfl:=Option.some.inj H;go_enter Try.func65,Try.ntmps65;try go_wp2_with (first|((with_reducible refine gate_dst (N:=1) rfl ?_);(try(refine gate_guard (by rfl) ?_;dsimp only));refine box_event qL (N:=1) qL (cs:=#[.int .i64 a0_0,.slice A0_1 l0_1.length c0_1]) (t:=26) qR ?_;intro gb128 hg w7 hbox hb;have n0_:=qAm (below_step qB111 hb);have n1_:=qAm (hbox);have n2_:=qAm ((by rw [hg];exact(below_size qB111):w.heap.size≤gb128));have n3_:=qAm ((by rw [hg];exact(below_size qB111):w.heap.size≤gb128));clear HB;have HB:=n0_;have BK128:=n1_;have GW128:=n2_;have GE128:=n3_;clear n0_ n1_ n2_ n3_;clear hb hbox hg))
   have n0_:=qAm (blk_drew BK128.1);have n1_:=qAm (below_drew1 HB.1);clear BK128 HB;have BK128:=n0_;have HB:=n1_;clear n0_ n1_;refine start_ (n:=17) (S:=fun w'=>w'.cell? ⟨gb128,0,none⟩=some (.int .i64 a0_0)∧w'.cell? ⟨gb128,1,none⟩=some (.slice A0_1 l0_1.length c0_1)) (ds:=[]) #[false,false,false,false,false,false,false,false,false,false,false,false,false,false,false,false,false] (by kernel_rfl) rfl rfl ⟨(blk_cell BK128.1 0).trans rfl,(blk_cell BK128.1 1).trans rfl⟩ (fun hHeld=>?_);refine with_tabW spec_l01Is.tab1 spec_l01Is.bits1 (fun HT_ HW_=>?_);generalize w7.drew=w8 at BK128 HB hHeld ⊢;refine pure_ (i:=0) (N:=some 3) (v:=?_) (a':=?_) #[true,false,false,false,false,false,false,false,false,false,false,false,false,false,false,false,false] rfl rfl (any_of HT_.1 (by kernel_rfl)) (fun _ _ _ h=>h) (Or.inl ⟨by rfl,?_⟩) ?_ ?_;rotate_left
   ·intro w';go_simp;with_reducible rfl
   rotate_left
   ·exact qU
   refine take_ (i:=1) (N:=some 4) (v:=?_) (a':=?_) #[true,true,false,false,false,false,false,false,false,false,false,false,false,false,false,false,false] rfl rfl (take_ofW HT_.1 HW_.1 (by kernel_rfl)) (fun _ _ _ h=>h) (Or.inl ⟨by rfl,?_⟩) hHeld ?_ ?_;rotate_left
   ·rintro w' ⟨s0,s1⟩;go_simp;with_reducible rfl
   rotate_left
   ·exact qU
   refine one_ (i:=2) (N:=some 5) #[true,true,true,false,false,false,false,false,false,false,false,false,false,false,false,false,false] rfl rfl (one_of HT_.1 (by kernel_rfl)) (by decide) (fun K hK=>?_);refine goes_ Try.func46 (by kernel_rfl) rfl #[.int .i64 a0_0,.int .i64 1,.int .i64 16] (by rfl) rfl rfl qB108 ?_;with_reducible refine(spec_l01In.calls a0_0 1 16 true _ A2.1).mono ?_
   rintro e w' ⟨rfl,⟨nd,rfl⟩⟩;refine⟨_,rfl,?_⟩;refine hK.out _ _ ⟨(blk_cell BK128.1 0).trans rfl,(blk_cell BK128.1 1).trans rfl⟩ (fun hHeld=>?_);clear hK K;refine norm_ (a':=?_) ?_ ?_;rotate_left
   ·show Act.put _ (some 5) _=_
    exact qU
   refine pure_ (i:=3) (N:=some 6) (v:=?_) (a':=?_) #[true,true,true,true,false,false,false,false,false,false,false,false,false,false,false,false,false] rfl rfl (any_of HT_.1 (by kernel_rfl)) (fun _ _ _ h=>h) (Or.inl ⟨by rfl,?_⟩) ?_ ?_;rotate_left
   ·intro w';go_simp;with_reducible rfl
   rotate_left
   ·exact qU
   refine pure_ (i:=4) (N:=some 7) (v:=?_) (a':=?_) #[true,true,true,true,true,false,false,false,false,false,false,false,false,false,false,false,false] rfl rfl (any_of HT_.1 (by kernel_rfl)) (fun _ _ _ h=>h) (Or.inl ⟨by rfl,?_⟩) ?_ ?_;rotate_left
   ·intro w';go_simp;with_reducible rfl
   rotate_left
   ·exact qU
   refine pure_ (i:=7) (N:=some 10) (v:=?_) (a':=?_) #[true,true,true,true,true,false,false,true,false,false,false,false,false,false,false,false,false] rfl rfl (any_of HT_.1 (by kernel_rfl)) (fun _ _ _ h=>h) (Or.inl ⟨by rfl,?_⟩) ?_ ?_;rotate_left
   ·intro w';go_simp;with_reducible rfl
   rotate_left
   ·exact qU
   refine take_ (i:=5) (N:=some 8) (v:=?_) (a':=?_) #[true,true,true,true,true,true,false,true,false,false,false,false,false,false,false,false,false] rfl rfl (take_ofW HT_.1 HW_.1 (by kernel_rfl)) (fun _ _ _ h=>h) (Or.inl ⟨by rfl,?_⟩) hHeld ?_ ?_;rotate_left
   ·rintro w' ⟨s0,s1⟩;go_simp;with_reducible rfl
   rotate_left
   ·exact qU
   refine pure_ (i:=6) (N:=some 9) (v:=?_) (a':=?_) #[true,true,true,true,true,true,true,true,false,false,false,false,false,false,false,false,false] rfl rfl (any_of HT_.1 (by kernel_rfl)) (fun _ _ _ h=>h) (Or.inl ⟨by rfl,?_⟩) ?_ ?_;rotate_left
   ·intro w';go_simp;with_reducible rfl
   rotate_left
   ·exact qU
   refine take_ (i:=8) (N:=some 11) (v:=?_) (a':=?_) #[true,true,true,true,true,true,true,true,true,false,false,false,false,false,false,false,false] rfl rfl (take_ofW HT_.1 HW_.1 (by kernel_rfl)) (fun _ _ _ h=>h) (Or.inl ⟨by rfl,?_⟩) hHeld ?_ ?_;rotate_left
   ·rintro w' ⟨s0,s1⟩;go_simp;with_reducible rfl
   rotate_left
   ·exact qU
   refine one_ (i:=9) (N:=some 12) #[true,true,true,true,true,true,true,true,true,true,false,false,false,false,false,false,false] rfl rfl (one_of HT_.1 (by kernel_rfl)) (by decide) (fun K hK=>?_);refine goes_ Try.func71 (by kernel_rfl) rfl #[.int .i64 a0_0] (by rfl) rfl rfl qB108 ?_;with_reducible refine(spec_l01Phi.calls k a0_0 t130 _ A4.1).mono ?_
   rintro e w9 ⟨rfl,hb⟩;refine⟨_,rfl,?_⟩;have n0_:=qAm (blk_below (g:=gb128) (o:=.cells #[.int .i64 a0_0,.slice A0_1 l0_1.length c0_1] 26 (0,0)) qB115 hb);have n1_:=qAm (below_step qB82 hb);clear BK128 HB;have BK128:=n0_;have HB:=n1_;clear n0_ n1_
   (try clear hb)
   (try clear hb2)
   (try clear hk)
   (try clear hi)
   refine hK.out _ _ ⟨(blk_cell BK128.1 0).trans rfl,(blk_cell BK128.1 1).trans rfl⟩ (fun hHeld=>?_);clear hK K;refine norm_ (a':=?_) ?_ ?_;rotate_left
   ·show Act.put _ (some 12) _=_
    exact qU
   refine pure_ (i:=10) (N:=some 13) (v:=?_) (a':=?_) #[true,true,true,true,true,true,true,true,true,true,true,false,false,false,false,false,false] rfl rfl (any_of HT_.1 (by kernel_rfl)) (fun _ _ _ h=>h) (Or.inl ⟨by rfl,?_⟩) ?_ ?_;rotate_left
   ·intro w';go_simp;with_reducible rfl
   rotate_left
   ·exact qU
   refine pure_ (i:=11) (N:=some 14) (v:=?_) (a':=?_) #[true,true,true,true,true,true,true,true,true,true,true,true,false,false,false,false,false] rfl rfl (any_of HT_.1 (by kernel_rfl)) (fun _ _ _ h=>h) (Or.inl ⟨by rfl,?_⟩) ?_ ?_;rotate_left
   ·intro w';go_simp;with_reducible rfl
   rotate_left
   ·exact qU
   refine pure_ (i:=12) (N:=some 15) (v:=?_) (a':=?_) #[true,true,true,true,true,true,true,true,true,true,true,true,true,false,false,false,false] rfl rfl (any_of HT_.1 (by kernel_rfl)) (fun _ _ _ h=>h) (Or.inl ⟨by rfl,?_⟩) ?_ ?_;rotate_left
   ·intro w';go_simp;with_reducible rfl
   rotate_left
   ·exact qU
   refine take_ (i:=13) (N:=some 16) (v:=?_) (a':=?_) #[true,true,true,true,true,true,true,true,true,true,true,true,true,true,false,false,false] rfl rfl (take_ofW HT_.1 HW_.1 (by kernel_rfl)) (fun _ _ _ h=>h) (Or.inl ⟨by rfl,?_⟩) hHeld ?_ ?_;rotate_left
   ·rintro w' ⟨s0,s1⟩;go_simp;with_reducible rfl
   rotate_left
   ·exact qU
   refine one_ (i:=14) (N:=some 17) #[true,true,true,true,true,true,true,true,true,true,true,true,true,true,true,false,false] rfl rfl (one_of HT_.1 (by kernel_rfl)) (by decide) (fun K hK=>?_);refine goes_ Try.func72 (by kernel_rfl) rfl #[.agg #[.int .i64 a0_0,.slice A0_1 l0_1.length c0_1]] (by rfl) rfl rfl qB108 ?_;with_reducible refine(spec_l01Fits.calls k a0_0 _ _ l0_1 t131 _ ?side1 ?side2 A6.1).mono ?_
   (case side1=>repeat(first|exact(Kd.C_below HR0_1.1 HB.1)|(with_reducible refine Kd.C_alloc ?_ _)|(with_reducible refine Kd.C_drewN ?_ _)|(with_reducible refine Kd.C_drew ?_)))
   (case side2=>exact HC0_1.1)
   rintro e w10 ⟨rfl,hb⟩;refine⟨_,rfl,?_⟩;have n0_:=qAm (blk_below (g:=gb128) (o:=.cells #[.int .i64 a0_0,.slice A0_1 l0_1.length c0_1] 26 (0,0)) qB115 hb);have n1_:=qAm (below_step qB82 hb);clear BK128 HB;have BK128:=n0_;have HB:=n1_;clear n0_ n1_
   (try clear hb)
   (try clear hb2)
   (try clear hk)
   (try clear hi)
   refine hK.out _ _ ⟨(blk_cell BK128.1 0).trans rfl,(blk_cell BK128.1 1).trans rfl⟩ (fun hHeld=>?_);clear hK K;refine norm_ (a':=?_) ?_ ?_;rotate_left
   ·show Act.put _ (some 17) _=_
    exact qU
   refine pure_ (i:=15) (N:=some 18) (v:=?_) (a':=?_) #[true,true,true,true,true,true,true,true,true,true,true,true,true,true,true,true,false] rfl rfl (any_of HT_.1 (by kernel_rfl)) (fun _ _ _ h=>h) (Or.inl ⟨by rfl,?_⟩) ?_ ?_;rotate_left
   ·intro w';go_simp;with_reducible rfl
   rotate_left
   ·exact qU
   refine pure_ (i:=16) (N:=some 2) (v:=?_) (a':=?_) #[true,true,true,true,true,true,true,true,true,true,true,true,true,true,true,true,true] rfl rfl (any_of HT_.1 (by kernel_rfl)) (fun _ _ _ h=>h) (Or.inl ⟨by rfl,?_⟩) ?_ ?_;rotate_left
   ·intro w';go_simp;with_reducible rfl
   rotate_left
   ·exact qU
   refine done_ (done_of HT_.1 (by kernel_rfl)) ?_;try go_wp2
   go_ret;exact⟨by first|rfl|(simp [errW_none,errW_some] <;> rfl)|(simp [*,errW_none,errW_some] <;> rfl),by repeat(first|(with_reducible first|exact HB.1|apply below_alloc|apply pw_below_drewN|apply below_drew1|refine below_set ?_ GE128.1)|exact HB.1)⟩
  ·rw [if_neg c5] at H;have c5b0:((l0_1.length:Int)==t130)=false:=beq_eq_false_iff_ne.mpr c5;have c5b1:((l0_1.length:Int) !=t130)=true:=bne_iff_ne.mpr c5;obtain rfl:=Option.some.inj H;go_enter Try.func65,Try.ntmps65;try go_wp2_with (first|((with_reducible refine gate_dst (N:=1) rfl ?_);(try(refine gate_guard (by rfl) ?_;dsimp only));refine box_event qL (N:=1) qL (cs:=#[.int .i64 a0_0,.slice A0_1 l0_1.length c0_1]) (t:=26) qR ?_;intro gb128 hg w11 hbox hb;have n0_:=qAm (below_step qB111 hb);have n1_:=qAm (hbox);have n2_:=qAm ((by rw [hg];exact(below_size qB111):w.heap.size≤gb128));have n3_:=qAm ((by rw [hg];exact(below_size qB111):w.heap.size≤gb128));clear HB;have HB:=n0_;have BK128:=n1_;have GW128:=n2_;have GE128:=n3_;clear n0_ n1_ n2_ n3_;clear hb hbox hg))
   have n0_:=qAm (blk_drew BK128.1);have n1_:=qAm (below_drew1 HB.1);clear BK128 HB;have BK128:=n0_;have HB:=n1_;clear n0_ n1_;refine start_ (n:=17) (S:=fun w'=>w'.cell? ⟨gb128,0,none⟩=some (.int .i64 a0_0)∧w'.cell? ⟨gb128,1,none⟩=some (.slice A0_1 l0_1.length c0_1)) (ds:=[]) #[false,false,false,false,false,false,false,false,false,false,false,false,false,false,false,false,false] (by kernel_rfl) rfl rfl ⟨(blk_cell BK128.1 0).trans rfl,(blk_cell BK128.1 1).trans rfl⟩ (fun hHeld=>?_);refine with_tabW spec_l01Is.tab1 spec_l01Is.bits1 (fun HT_ HW_=>?_);generalize w11.drew=w12 at BK128 HB hHeld ⊢;refine pure_ (i:=0) (N:=some 3) (v:=?_) (a':=?_) #[true,false,false,false,false,false,false,false,false,false,false,false,false,false,false,false,false] rfl rfl (any_of HT_.1 (by kernel_rfl)) (fun _ _ _ h=>h) (Or.inl ⟨by rfl,?_⟩) ?_ ?_;rotate_left
   ·intro w';go_simp;with_reducible rfl
   rotate_left
   ·exact qU
   refine take_ (i:=1) (N:=some 4) (v:=?_) (a':=?_) #[true,true,false,false,false,false,false,false,false,false,false,false,false,false,false,false,false] rfl rfl (take_ofW HT_.1 HW_.1 (by kernel_rfl)) (fun _ _ _ h=>h) (Or.inl ⟨by rfl,?_⟩) hHeld ?_ ?_;rotate_left
   ·rintro w' ⟨s0,s1⟩;go_simp;with_reducible rfl
   rotate_left
   ·exact qU
   refine one_ (i:=2) (N:=some 5) #[true,true,true,false,false,false,false,false,false,false,false,false,false,false,false,false,false] rfl rfl (one_of HT_.1 (by kernel_rfl)) (by decide) (fun K hK=>?_);refine goes_ Try.func46 (by kernel_rfl) rfl #[.int .i64 a0_0,.int .i64 1,.int .i64 16] (by rfl) rfl rfl qB108 ?_;with_reducible refine(spec_l01In.calls a0_0 1 16 true _ A2.1).mono ?_
   rintro e w' ⟨rfl,⟨nd,rfl⟩⟩;refine⟨_,rfl,?_⟩;refine hK.out _ _ ⟨(blk_cell BK128.1 0).trans rfl,(blk_cell BK128.1 1).trans rfl⟩ (fun hHeld=>?_);clear hK K;refine norm_ (a':=?_) ?_ ?_;rotate_left
   ·show Act.put _ (some 5) _=_
    exact qU
   refine pure_ (i:=3) (N:=some 6) (v:=?_) (a':=?_) #[true,true,true,true,false,false,false,false,false,false,false,false,false,false,false,false,false] rfl rfl (any_of HT_.1 (by kernel_rfl)) (fun _ _ _ h=>h) (Or.inl ⟨by rfl,?_⟩) ?_ ?_;rotate_left
   ·intro w';go_simp;with_reducible rfl
   rotate_left
   ·exact qU
   refine pure_ (i:=4) (N:=some 7) (v:=?_) (a':=?_) #[true,true,true,true,true,false,false,false,false,false,false,false,false,false,false,false,false] rfl rfl (any_of HT_.1 (by kernel_rfl)) (fun _ _ _ h=>h) (Or.inl ⟨by rfl,?_⟩) ?_ ?_;rotate_left
   ·intro w';go_simp;with_reducible rfl
   rotate_left
   ·exact qU
   refine pure_ (i:=7) (N:=some 10) (v:=?_) (a':=?_) #[true,true,true,true,true,false,false,true,false,false,false,false,false,false,false,false,false] rfl rfl (any_of HT_.1 (by kernel_rfl)) (fun _ _ _ h=>h) (Or.inl ⟨by rfl,?_⟩) ?_ ?_;rotate_left
   ·intro w';go_simp;with_reducible rfl
   rotate_left
   ·exact qU
   refine take_ (i:=5) (N:=some 8) (v:=?_) (a':=?_) #[true,true,true,true,true,true,false,true,false,false,false,false,false,false,false,false,false] rfl rfl (take_ofW HT_.1 HW_.1 (by kernel_rfl)) (fun _ _ _ h=>h) (Or.inl ⟨by rfl,?_⟩) hHeld ?_ ?_;rotate_left
   ·rintro w' ⟨s0,s1⟩;go_simp;with_reducible rfl
   rotate_left
   ·exact qU
   refine pure_ (i:=6) (N:=some 9) (v:=?_) (a':=?_) #[true,true,true,true,true,true,true,true,false,false,false,false,false,false,false,false,false] rfl rfl (any_of HT_.1 (by kernel_rfl)) (fun _ _ _ h=>h) (Or.inl ⟨by rfl,?_⟩) ?_ ?_;rotate_left
   ·intro w';go_simp;with_reducible rfl
   rotate_left
   ·exact qU
   refine take_ (i:=8) (N:=some 11) (v:=?_) (a':=?_) #[true,true,true,true,true,true,true,true,true,false,false,false,false,false,false,false,false] rfl rfl (take_ofW HT_.1 HW_.1 (by kernel_rfl)) (fun _ _ _ h=>h) (Or.inl ⟨by rfl,?_⟩) hHeld ?_ ?_;rotate_left
   ·rintro w' ⟨s0,s1⟩;go_simp;with_reducible rfl
   rotate_left
   ·exact qU
   refine one_ (i:=9) (N:=some 12) #[true,true,true,true,true,true,true,true,true,true,false,false,false,false,false,false,false] rfl rfl (one_of HT_.1 (by kernel_rfl)) (by decide) (fun K hK=>?_);refine goes_ Try.func71 (by kernel_rfl) rfl #[.int .i64 a0_0] (by rfl) rfl rfl qB108 ?_;with_reducible refine(spec_l01Phi.calls k a0_0 t130 _ A4.1).mono ?_
   rintro e w13 ⟨rfl,hb⟩;refine⟨_,rfl,?_⟩;have n0_:=qAm (blk_below (g:=gb128) (o:=.cells #[.int .i64 a0_0,.slice A0_1 l0_1.length c0_1] 26 (0,0)) qB115 hb);have n1_:=qAm (below_step qB82 hb);clear BK128 HB;have BK128:=n0_;have HB:=n1_;clear n0_ n1_
   (try clear hb)
   (try clear hb2)
   (try clear hk)
   (try clear hi)
   refine hK.out _ _ ⟨(blk_cell BK128.1 0).trans rfl,(blk_cell BK128.1 1).trans rfl⟩ (fun hHeld=>?_);clear hK K;refine norm_ (a':=?_) ?_ ?_;rotate_left
   ·show Act.put _ (some 12) _=_
    exact qU
   refine pure_ (i:=10) (N:=some 13) (v:=?_) (a':=?_) #[true,true,true,true,true,true,true,true,true,true,true,false,false,false,false,false,false] rfl rfl (any_of HT_.1 (by kernel_rfl)) (fun _ _ _ h=>h) (Or.inl ⟨by rfl,?_⟩) ?_ ?_;rotate_left
   ·intro w';go_simp;with_reducible rfl
   rotate_left
   ·exact qU
   refine pure_ (i:=11) (N:=some 14) (v:=?_) (a':=?_) #[true,true,true,true,true,true,true,true,true,true,true,true,false,false,false,false,false] rfl rfl (any_of HT_.1 (by kernel_rfl)) (fun _ _ _ h=>h) (Or.inl ⟨by rfl,?_⟩) ?_ ?_;rotate_left
   ·intro w';go_simp;with_reducible rfl
   rotate_left
   ·exact qU
   refine pure_ (i:=12) (N:=some 15) (v:=?_) (a':=?_) #[true,true,true,true,true,true,true,true,true,true,true,true,true,false,false,false,false] rfl rfl (any_of HT_.1 (by kernel_rfl)) (fun _ _ _ h=>h) (Or.inl ⟨by rfl,?_⟩) ?_ ?_;rotate_left
   ·intro w';go_simp;with_reducible rfl
   rotate_left
   ·exact qU
   refine pure_ (i:=13) (N:=some 16) (v:=undef) (a':=?_) #[true,true,true,true,true,true,true,true,true,true,true,true,true,true,false,false,false] rfl rfl (any_of HT_.1 (by kernel_rfl)) (fun _ _ _ h=>h) (Or.inr ⟨by rfl,rfl⟩) ?_ ?_;rotate_left
   ·exact qU
   refine pure_ (i:=14) (N:=some 17) (v:=undef) (a':=?_) #[true,true,true,true,true,true,true,true,true,true,true,true,true,true,true,false,false] rfl rfl (any_of HT_.1 (by kernel_rfl)) (fun _ _ _ h=>h) (Or.inr ⟨by rfl,rfl⟩) ?_ ?_;rotate_left
   ·exact qU
   refine pure_ (i:=15) (N:=some 18) (v:=?_) (a':=?_) #[true,true,true,true,true,true,true,true,true,true,true,true,true,true,true,true,false] rfl rfl (any_of HT_.1 (by kernel_rfl)) (fun _ _ _ h=>h) (Or.inl ⟨by rfl,?_⟩) ?_ ?_;rotate_left
   ·intro w';go_simp;with_reducible rfl
   rotate_left
   ·exact qU
   refine pure_ (i:=16) (N:=some 2) (v:=?_) (a':=?_) #[true,true,true,true,true,true,true,true,true,true,true,true,true,true,true,true,true] rfl rfl (any_of HT_.1 (by kernel_rfl)) (fun _ _ _ h=>h) (Or.inl ⟨by rfl,?_⟩) ?_ ?_;rotate_left
   ·intro w';go_simp;with_reducible rfl
   rotate_left
   ·exact qU
   refine done_ (done_of HT_.1 (by kernel_rfl)) ?_;try go_wp2
   go_ret;exact⟨by first|rfl|(simp [errW_none,errW_some] <;> rfl)|(simp [*,errW_none,errW_some] <;> rfl),by repeat(first|(with_reducible first|exact HB.1|apply below_alloc|apply pw_below_drewN|apply below_drew1|refine below_set ?_ GE128.1)|exact HB.1)⟩
 ·replace c3:=Bool.eq_false_iff.mpr c3;subst c3;have H1:(some false)=some r:=by rw [if_neg (show ¬(false=true) by decide)] at H;exact H
  clear H;have H:=H1;clear H1;obtain rfl:=Option.some.inj H;go_enter Try.func65,Try.ntmps65;try go_wp2_with (first|((with_reducible refine gate_dst (N:=1) rfl ?_);(try(refine gate_guard (by rfl) ?_;dsimp only));refine box_event qL (N:=1) qL (cs:=#[.int .i64 a0_0,.slice A0_1 l0_1.length c0_1]) (t:=26) qR ?_;intro gb128 hg w14 hbox hb;have n0_:=qAm (below_step qB111 hb);have n1_:=qAm (hbox);have n2_:=qAm ((by rw [hg];exact(below_size qB111):w.heap.size≤gb128));have n3_:=qAm ((by rw [hg];exact(below_size qB111):w.heap.size≤gb128));clear HB;have HB:=n0_;have BK128:=n1_;have GW128:=n2_;have GE128:=n3_;clear n0_ n1_ n2_ n3_;clear hb hbox hg))
  have n0_:=qAm (blk_drew BK128.1);have n1_:=qAm (below_drew1 HB.1);clear BK128 HB;have BK128:=n0_;have HB:=n1_;clear n0_ n1_;refine start_ (n:=17) (S:=fun w'=>w'.cell? ⟨gb128,0,none⟩=some (.int .i64 a0_0)∧w'.cell? ⟨gb128,1,none⟩=some (.slice A0_1 l0_1.length c0_1)) (ds:=[]) #[false,false,false,false,false,false,false,false,false,false,false,false,false,false,false,false,false] (by kernel_rfl) rfl rfl ⟨(blk_cell BK128.1 0).trans rfl,(blk_cell BK128.1 1).trans rfl⟩ (fun hHeld=>?_);refine with_tabW spec_l01Is.tab1 spec_l01Is.bits1 (fun HT_ HW_=>?_);generalize w14.drew=w15 at BK128 HB hHeld ⊢;refine pure_ (i:=0) (N:=some 3) (v:=?_) (a':=?_) #[true,false,false,false,false,false,false,false,false,false,false,false,false,false,false,false,false] rfl rfl (any_of HT_.1 (by kernel_rfl)) (fun _ _ _ h=>h) (Or.inl ⟨by rfl,?_⟩) ?_ ?_;rotate_left
  ·intro w';go_simp;with_reducible rfl
  rotate_left
  ·exact qU
  refine take_ (i:=1) (N:=some 4) (v:=?_) (a':=?_) #[true,true,false,false,false,false,false,false,false,false,false,false,false,false,false,false,false] rfl rfl (take_ofW HT_.1 HW_.1 (by kernel_rfl)) (fun _ _ _ h=>h) (Or.inl ⟨by rfl,?_⟩) hHeld ?_ ?_;rotate_left
  ·rintro w' ⟨s0,s1⟩;go_simp;with_reducible rfl
  rotate_left
  ·exact qU
  refine one_ (i:=2) (N:=some 5) #[true,true,true,false,false,false,false,false,false,false,false,false,false,false,false,false,false] rfl rfl (one_of HT_.1 (by kernel_rfl)) (by decide) (fun K hK=>?_);refine goes_ Try.func46 (by kernel_rfl) rfl #[.int .i64 a0_0,.int .i64 1,.int .i64 16] (by rfl) rfl rfl qB108 ?_;with_reducible refine(spec_l01In.calls a0_0 1 16 false _ A2.1).mono ?_
  rintro e w' ⟨rfl,⟨nd,rfl⟩⟩;refine⟨_,rfl,?_⟩;refine hK.out _ _ ⟨(blk_cell BK128.1 0).trans rfl,(blk_cell BK128.1 1).trans rfl⟩ (fun hHeld=>?_);clear hK K;refine norm_ (a':=?_) ?_ ?_;rotate_left
  ·show Act.put _ (some 5) _=_
   exact qU
  refine pure_ (i:=3) (N:=some 6) (v:=?_) (a':=?_) #[true,true,true,true,false,false,false,false,false,false,false,false,false,false,false,false,false] rfl rfl (any_of HT_.1 (by kernel_rfl)) (fun _ _ _ h=>h) (Or.inl ⟨by rfl,?_⟩) ?_ ?_;rotate_left
  ·intro w';go_simp;with_reducible rfl
  rotate_left
  ·exact qU
  refine pure_ (i:=4) (N:=some 7) (v:=undef) (a':=?_) #[true,true,true,true,true,false,false,false,false,false,false,false,false,false,false,false,false] rfl rfl (any_of HT_.1 (by kernel_rfl)) (fun _ _ _ h=>h) (Or.inr ⟨by rfl,rfl⟩) ?_ ?_;rotate_left
  ·exact qU
  refine pure_ (i:=5) (N:=some 8) (v:=undef) (a':=?_) #[true,true,true,true,true,true,false,false,false,false,false,false,false,false,false,false,false] rfl rfl (any_of HT_.1 (by kernel_rfl)) (fun _ _ _ h=>h) (Or.inr ⟨by rfl,rfl⟩) ?_ ?_;rotate_left
  ·exact qU
  refine pure_ (i:=6) (N:=some 9) (v:=undef) (a':=?_) #[true,true,true,true,true,true,true,false,false,false,false,false,false,false,false,false,false] rfl rfl (any_of HT_.1 (by kernel_rfl)) (fun _ _ _ h=>h) (Or.inr ⟨by rfl,rfl⟩) ?_ ?_;rotate_left
  ·exact qU
  refine pure_ (i:=7) (N:=some 10) (v:=undef) (a':=?_) #[true,true,true,true,true,true,true,true,false,false,false,false,false,false,false,false,false] rfl rfl (any_of HT_.1 (by kernel_rfl)) (fun _ _ _ h=>h) (Or.inr ⟨by rfl,rfl⟩) ?_ ?_;rotate_left
  ·exact qU
  refine pure_ (i:=8) (N:=some 11) (v:=undef) (a':=?_) #[true,true,true,true,true,true,true,true,true,false,false,false,false,false,false,false,false] rfl rfl (any_of HT_.1 (by kernel_rfl)) (fun _ _ _ h=>h) (Or.inr ⟨by rfl,rfl⟩) ?_ ?_;rotate_left
  ·exact qU
  refine pure_ (i:=9) (N:=some 12) (v:=undef) (a':=?_) #[true,true,true,true,true,true,true,true,true,true,false,false,false,false,false,false,false] rfl rfl (any_of HT_.1 (by kernel_rfl)) (fun _ _ _ h=>h) (Or.inr ⟨by rfl,rfl⟩) ?_ ?_;rotate_left
  ·exact qU
  refine pure_ (i:=10) (N:=some 13) (v:=undef) (a':=?_) #[true,true,true,true,true,true,true,true,true,true,true,false,false,false,false,false,false] rfl rfl (any_of HT_.1 (by kernel_rfl)) (fun _ _ _ h=>h) (Or.inr ⟨by rfl,rfl⟩) ?_ ?_;rotate_left
  ·exact qU
  refine pure_ (i:=11) (N:=some 14) (v:=?_) (a':=?_) #[true,true,true,true,true,true,true,true,true,true,true,true,false,false,false,false,false] rfl rfl (any_of HT_.1 (by kernel_rfl)) (fun _ _ _ h=>h) (Or.inl ⟨by rfl,?_⟩) ?_ ?_;rotate_left
  ·intro w';go_simp;with_reducible rfl
  rotate_left
  ·exact qU
  refine pure_ (i:=12) (N:=some 15) (v:=?_) (a':=?_) #[true,true,true,true,true,true,true,true,true,true,true,true,true,false,false,false,false] rfl rfl (any_of HT_.1 (by kernel_rfl)) (fun _ _ _ h=>h) (Or.inl ⟨by rfl,?_⟩) ?_ ?_;rotate_left
  ·intro w';go_simp;with_reducible rfl
  rotate_left
  ·exact qU
  refine pure_ (i:=13) (N:=some 16) (v:=undef) (a':=?_) #[true,true,true,true,true,true,true,true,true,true,true,true,true,true,false,false,false] rfl rfl (any_of HT_.1 (by kernel_rfl)) (fun _ _ _ h=>h) (Or.inr ⟨by rfl,rfl⟩) ?_ ?_;rotate_left
  ·exact qU
  refine pure_ (i:=14) (N:=some 17) (v:=undef) (a':=?_) #[true,true,true,true,true,true,true,true,true,true,true,true,true,true,true,false,false] rfl rfl (any_of HT_.1 (by kernel_rfl)) (fun _ _ _ h=>h) (Or.inr ⟨by rfl,rfl⟩) ?_ ?_;rotate_left
  ·exact qU
  refine pure_ (i:=15) (N:=some 18) (v:=?_) (a':=?_) #[true,true,true,true,true,true,true,true,true,true,true,true,true,true,true,true,false] rfl rfl (any_of HT_.1 (by kernel_rfl)) (fun _ _ _ h=>h) (Or.inl ⟨by rfl,?_⟩) ?_ ?_;rotate_left
  ·intro w';go_simp;with_reducible rfl
  rotate_left
  ·exact qU
  refine pure_ (i:=16) (N:=some 2) (v:=?_) (a':=?_) #[true,true,true,true,true,true,true,true,true,true,true,true,true,true,true,true,true] rfl rfl (any_of HT_.1 (by kernel_rfl)) (fun _ _ _ h=>h) (Or.inl ⟨by rfl,?_⟩) ?_ ?_;rotate_left
  ·intro w';go_simp;with_reducible rfl
  rotate_left
  ·exact qU
  refine done_ (done_of HT_.1 (by kernel_rfl)) ?_;try go_wp2
  go_ret;exact⟨by first|rfl|(simp [errW_none,errW_some] <;> rfl)|(simp [*,errW_none,errW_some] <;> rfl),by repeat(first|(with_reducible first|exact HB.1|apply below_alloc|apply pw_below_drewN|apply below_drew1|refine below_set ?_ GE128.1)|exact HB.1)⟩

/-! ### spec_l09Is: function 51 -/
def spec_l09Is.f (k:Nat) (a0_0:Int) (l0_1:List Int):Option (Bool):=if a0_0=3 then ((spec_l01Is.f k a0_0 l0_1).bind fun t133=>(if t133=true then ((spec_l09Fits.f a0_0 l0_1).bind fun t134=>(some t134)) else (some false))) else (some false)
theorem spec_l09Is.mono:∀a0 a1 k,LeO (spec_l09Is.f k a0 a1) (spec_l09Is.f (k+1) a0 a1):=by
 intro a0 a1 k;unfold spec_l09Is.f;repeat' first
   |(with_reducible exact spec_l01Is.mono _ _ _)
   |(with_reducible exact LeO.refl _)
   |(with_reducible exact LeO.none _)
   |(with_reducible refine LeO.ite ?_ ?_)
   |(with_reducible refine LeO.bind ?_ (fun _=>?_))
   |exact spec_l01Is.mono _ _ _
   |exact LeO.none _
   |refine LeO.ite ?_ ?_
   |refine LeO.bind ?_ (fun _=>?_)
set_option maxHeartbeats 8000000 in
set_option maxRecDepth 100000 in
theorem spec_l09Is.calls (k:Nat) (a0_0:Int) (A0_1:Option Addr) (c0_1:Nat) (l0_1:List Int) (r:Bool) (w:World) (hr0_1:Kd.C (Kd.int .i64) w A0_1 l0_1.length l0_1) (hc0_1:l0_1.length≤c0_1) (h:spec_l09Is.f k a0_0 l0_1=some r):
  Calls Try.prog 51 #[.agg #[.int .i64 a0_0,.slice A0_1 l0_1.length c0_1]] w fun e w'=>e=.returned (.bool r)∧Below w.heap.size w w':=by
 have hu26:=Try.underlying26;have HR0_1:=qAm hr0_1;have HC0_1:=qAm hc0_1;clear hr0_1 hc0_1;have HB:=qAm (Below.refl w.heap.size w);have H:(if a0_0=3 then ((spec_l01Is.f k a0_0 l0_1).bind fun t133=>(if t133=true then ((spec_l09Fits.f a0_0 l0_1).bind fun t134=>(some t134)) else (some false))) else (some false))=some r:=h;clear h
 by_cases c2:a0_0=3
 ·rw [if_pos c2] at H;have c2b0:(a0_0==3)=true:=beq_iff_eq.mpr c2;have c2b1:(a0_0 !=3)=false:=bne_eq_false_iff_eq.mpr c2;clear c2;replace H:=qOb H;obtain⟨t133,A30,H⟩:=H;replace H:(if t133=true then ((spec_l09Fits.f a0_0 l0_1).bind fun t134=>(some t134)) else (some false))=some r:=H;have A3:=qAm A30;clear A30
  by_cases c4:t133=true
  ·subst c4;have H1:((spec_l09Fits.f a0_0 l0_1).bind fun t134=>(some t134))=some r:=by rw [if_pos rfl] at H;exact H
   clear H;have H:=H1;clear H1;replace H:=qOb H;obtain⟨t134,A50,H⟩:=H;replace H:(some t134)=some r:=H;have A5:=qAm A50;clear A50;obtain rfl:=Option.some.inj H;go_enter Try.func51,Try.ntmps51;go_wp2_with (first|((with_reducible refine gate_dst (N:=1) rfl ?_);refine box_event qL (N:=1) qL (cs:=#[.int .i64 a0_0,.slice A0_1 l0_1.length c0_1]) (t:=26) qR ?_;intro gb132 hg w6 hbox hb;have n0_:=qAm (below_step qB111 hb);have n1_:=qAm (hbox);have n2_:=qAm ((by rw [hg];exact(below_size qB111):w.heap.size≤gb132));have n3_:=qAm ((by rw [hg];exact(below_size qB111):w.heap.size≤gb132));clear HB;have HB:=n0_;have BK132:=n1_;have GW132:=n2_;have GE132:=n3_;clear n0_ n1_ n2_ n3_;clear hb hbox hg;have hcz7_0:w6.cell? ⟨gb132,0,none⟩=some (.int .i64 a0_0):=(blk_cell BK132.1 0).trans rfl;have hcz7_1:w6.cell? ⟨gb132,1,none⟩=some (.slice A0_1 l0_1.length c0_1):=(blk_cell BK132.1 1).trans rfl;have hfz7_0:=blk_frozen BK132.1 0;have hfz7_1:=blk_frozen BK132.1 1)|(go_at_call 65;(with_reducible refine(spec_l01Is.calls k a0_0 _ _ l0_1 true _ ?side1 ?side2 A3.1).mono ?_);(case side1=>repeat(first|exact(Kd.C_below HR0_1.1 HB.1)|(with_reducible refine Kd.C_alloc ?_ _)|(with_reducible refine Kd.C_drewN ?_ _)|(with_reducible refine Kd.C_drew ?_)));(case side2=>exact HC0_1.1);rintro e w8 ⟨rfl,hb⟩;have n0_:=qAm (blk_below (g:=gb132) (o:=.cells #[.int .i64 a0_0,.slice A0_1 l0_1.length c0_1] 26 (0,0)) qB116 hb);have n1_:=qAm (below_step qB83 hb);clear BK132;clear HB;have BK132:=n0_;have HB:=n1_;clear n0_ n1_;(try clear hb);(try clear hb2);(try clear hk);(try clear hi);have hcz9_0:w8.cell? ⟨gb132,0,none⟩=some (.int .i64 a0_0):=(blk_cell BK132.1 0).trans rfl;have hcz9_1:w8.cell? ⟨gb132,1,none⟩=some (.slice A0_1 l0_1.length c0_1):=(blk_cell BK132.1 1).trans rfl;have hfz9_0:=blk_frozen BK132.1 0;have hfz9_1:=blk_frozen BK132.1 1)|(go_at_call 27;(with_reducible refine(spec_l09Fits.calls a0_0 _ _ l0_1 t134 _ ?side1 ?side2 A5.1).mono ?_);(case side1=>repeat(first|exact(Kd.C_below HR0_1.1 HB.1)|(with_reducible refine Kd.C_alloc ?_ _)|(with_reducible refine Kd.C_drewN ?_ _)|(with_reducible refine Kd.C_drew ?_)));(case side2=>exact HC0_1.1);rintro e w10 ⟨rfl,hb⟩;have n0_:=qAm (blk_below (g:=gb132) (o:=.cells #[.int .i64 a0_0,.slice A0_1 l0_1.length c0_1] 26 (0,0)) qB116 hb);have n1_:=qAm (below_step qB83 hb);clear BK132;clear HB;have BK132:=n0_;have HB:=n1_;clear n0_ n1_;(try clear hb);(try clear hb2);(try clear hk);(try clear hi)));go_ret;exact⟨by first|rfl|(simp [errW_none,errW_some] <;> rfl)|(simp [*,errW_none,errW_some] <;> rfl),by repeat(first|(with_reducible first|exact HB.1|apply below_alloc|apply pw_below_drewN|apply below_drew1|refine below_set ?_ GE132.1)|exact HB.1)⟩
  ·replace c4:=Bool.eq_false_iff.mpr c4;subst c4;have H1:(some false)=some r:=by rw [if_neg (show ¬(false=true) by decide)] at H;exact H
   clear H;have H:=H1;clear H1;obtain rfl:=Option.some.inj H;go_enter Try.func51,Try.ntmps51;go_wp2_with (first|((with_reducible refine gate_dst (N:=1) rfl ?_);refine box_event qL (N:=1) qL (cs:=#[.int .i64 a0_0,.slice A0_1 l0_1.length c0_1]) (t:=26) qR ?_;intro gb132 hg w11 hbox hb;have n0_:=qAm (below_step qB111 hb);have n1_:=qAm (hbox);have n2_:=qAm ((by rw [hg];exact(below_size qB111):w.heap.size≤gb132));have n3_:=qAm ((by rw [hg];exact(below_size qB111):w.heap.size≤gb132));clear HB;have HB:=n0_;have BK132:=n1_;have GW132:=n2_;have GE132:=n3_;clear n0_ n1_ n2_ n3_;clear hb hbox hg;have hcz12_0:w11.cell? ⟨gb132,0,none⟩=some (.int .i64 a0_0):=(blk_cell BK132.1 0).trans rfl;have hcz12_1:w11.cell? ⟨gb132,1,none⟩=some (.slice A0_1 l0_1.length c0_1):=(blk_cell BK132.1 1).trans rfl;have hfz12_0:=blk_frozen BK132.1 0;have hfz12_1:=blk_frozen BK132.1 1)|(go_at_call 65;(with_reducible refine(spec_l01Is.calls k a0_0 _ _ l0_1 false _ ?side1 ?side2 A3.1).mono ?_);(case side1=>repeat(first|exact(Kd.C_below HR0_1.1 HB.1)|(with_reducible refine Kd.C_alloc ?_ _)|(with_reducible refine Kd.C_drewN ?_ _)|(with_reducible refine Kd.C_drew ?_)));(case side2=>exact HC0_1.1);rintro e w13 ⟨rfl,hb⟩;have n0_:=qAm (blk_below (g:=gb132) (o:=.cells #[.int .i64 a0_0,.slice A0_1 l0_1.length c0_1] 26 (0,0)) qB116 hb);have n1_:=qAm (below_step qB83 hb);clear BK132;clear HB;have BK132:=n0_;have HB:=n1_;clear n0_ n1_;(try clear hb);(try clear hb2);(try clear hk);(try clear hi)));go_ret;exact⟨by first|rfl|(simp [errW_none,errW_some] <;> rfl)|(simp [*,errW_none,errW_some] <;> rfl),by repeat(first|(with_reducible first|exact HB.1|apply below_alloc|apply pw_below_drewN|apply below_drew1|refine below_set ?_ GE132.1)|exact HB.1)⟩
 ·rw [if_neg c2] at H;have c2b0:(a0_0==3)=false:=beq_eq_false_iff_ne.mpr c2;have c2b1:(a0_0 !=3)=true:=bne_iff_ne.mpr c2;obtain rfl:=Option.some.inj H;go_enter Try.func51,Try.ntmps51;go_wp2_with (first|((with_reducible refine gate_dst (N:=1) rfl ?_);refine box_event qL (N:=1) qL (cs:=#[.int .i64 a0_0,.slice A0_1 l0_1.length c0_1]) (t:=26) qR ?_;intro gb132 hg w14 hbox hb;have n0_:=qAm (below_step qB111 hb);have n1_:=qAm (hbox);have n2_:=qAm ((by rw [hg];exact(below_size qB111):w.heap.size≤gb132));have n3_:=qAm ((by rw [hg];exact(below_size qB111):w.heap.size≤gb132));clear HB;have HB:=n0_;have BK132:=n1_;have GW132:=n2_;have GE132:=n3_;clear n0_ n1_ n2_ n3_;clear hb hbox hg;have hcz15_0:w14.cell? ⟨gb132,0,none⟩=some (.int .i64 a0_0):=(blk_cell BK132.1 0).trans rfl;have hcz15_1:w14.cell? ⟨gb132,1,none⟩=some (.slice A0_1 l0_1.length c0_1):=(blk_cell BK132.1 1).trans rfl;have hfz15_0:=blk_frozen BK132.1 0;have hfz15_1:=blk_frozen BK132.1 1));go_ret;exact⟨by first|rfl|(simp [errW_none,errW_some] <;> rfl)|(simp [*,errW_none,errW_some] <;> rfl),by repeat(first|(with_reducible first|exact HB.1|apply below_alloc|apply pw_below_drewN|apply below_drew1|refine below_set ?_ GE132.1)|exact HB.1)⟩

/-! ### spec_l09Code: function 24 -/
def spec_l09Code.l0:Nat→List (S26)→Int→Option (Int)
 |0,_,_=>none
 |k+1,x0,x3=>if x3<(x0.length:Int) then (if 0≤x3 then ((spec_l09Is.f k ((rd_T26 x0 x3).f0) ((rd_T26 x0 x3).f1)).bind fun t136=>(if t136=true then (spec_l09Code.l0 k x0 (wrap64 (x3+1))) else (some 1))) else (none)) else (some 0)
def spec_l09Code.f (k:Nat) (l0:List (S26)):Option (Int):=spec_l09Code.l0 k l0 0
theorem spec_l09Code.mono_l:∀k,(∀y0 y1,LeO (spec_l09Code.l0 k y0 y1) (spec_l09Code.l0 (k+1) y0 y1))
 |0=>fun _ _ r h=>by simp [spec_l09Code.l0] at h
 |k+1=>by
  have ih0:=spec_l09Code.mono_l k
  ·intro y0 y1;unfold spec_l09Code.l0;repeat' first
   |(with_reducible exact ih0 _ _)
   |(with_reducible exact spec_l09Is.mono _ _ _)
   |(with_reducible exact LeO.refl _)
   |(with_reducible exact LeO.none _)
   |(with_reducible refine LeO.ite ?_ ?_)
   |(with_reducible refine LeO.bind ?_ (fun _=>?_))
   |exact ih0 _ _
   |exact spec_l09Is.mono _ _ _
   |exact LeO.none _
   |refine LeO.ite ?_ ?_
   |refine LeO.bind ?_ (fun _=>?_)
theorem spec_l09Code.mono:∀a0 k,LeO (spec_l09Code.f k a0) (spec_l09Code.f (k+1) a0):=by
 intro a0 k;have ih0:=spec_l09Code.mono_l k;unfold spec_l09Code.f;repeat' first
   |(with_reducible exact ih0 _ _)
   |(with_reducible exact spec_l09Is.mono _ _ _)
   |(with_reducible exact LeO.refl _)
   |(with_reducible exact LeO.none _)
   |(with_reducible refine LeO.ite ?_ ?_)
   |(with_reducible refine LeO.bind ?_ (fun _=>?_))
   |exact ih0 _ _
   |exact spec_l09Is.mono _ _ _
   |exact LeO.none _
   |refine LeO.ite ?_ ?_
   |refine LeO.bind ?_ (fun _=>?_)
set_option maxHeartbeats 8000000 in
set_option maxRecDepth 100000 in
theorem spec_l09Code.calls (k:Nat) (A0:Option Addr) (c0:Nat) (l0:List (S26)) (r:Int) (w:World) (hr0:Kd.C k26 w A0 l0.length l0) (hc0:l0.length≤c0) (h:spec_l09Code.f k l0=some r):
  Calls Try.prog 24 #[.slice A0 l0.length c0] w fun e w'=>e=.returned (.int .i64 r)∧Below w.heap.size w w':=by
 have hu26:=Try.underlying26;have HR0:=qAm hr0;have HC0:=qAm hc0;clear hr0 hc0;have HB:=qAm (Below.refl w.heap.size w);have H:(spec_l09Code.l0 k l0 0)=some r:=h;clear h;have H':=qAm H;clear H;go_enter Try.func24,Try.ntmps24;go_wp2;try simp only [Act.put,qSa,qSc,qSb]
 go_loopg [3] k (fun kq v3 w'=>∃(x3_1:Int),v3=.int .i64 x3_1∧Aside0 (spec_l09Code.l0 kq l0 x3_1=some r)∧Aside0 (kq≤k)∧Aside0 (Below w.heap.size w w'))
 case atStart=>exact⟨(0),qB216,H',⟨Nat.le_refl _⟩,⟨by repeat(first|(with_reducible first|exact HB.1|apply below_alloc|apply pw_below_drewN|apply below_drew1)|exact HB.1)⟩⟩
 case round=>
  clear H';obtain⟨x3_1,rfl,HA,HK1,HB⟩:=hrel;cases gk with
  |zero=>exact absurd HA.1 (by simp [spec_l09Code.l0])
  |succ k1=>
   have H:=HA.1;clear HA;simp only [spec_l09Code.l0] at H
   by_cases c2:x3_1<(l0.length:Int)
   ·rw [if_pos c2] at H;have c2b0:decide (x3_1<(l0.length:Int))=true:=decide_eq_true c2;clear c2
    by_cases c3:0≤x3_1
    ·rw [if_pos c3] at H;have c3b0:decide (0≤x3_1)=true:=decide_eq_true c3;clear c3;replace H:=qOb H;obtain⟨t136,A40,H⟩:=H;replace H:(if t136=true then (spec_l09Code.l0 k1 l0 (wrap64 (x3_1+1))) else (some 1))=some r:=H;have A4:=qAm A40;clear A40
     by_cases c5:t136=true
     ·subst c5;have H1:(spec_l09Code.l0 k1 l0 (wrap64 (x3_1+1)))=some r:=by rw [if_pos rfl] at H;exact H
      clear H;have H:=H1;clear H1;have H':=qAm H;clear H;have p135:0≤(x3_1:Int):=of_decide_eq_true qB215;have q135:x3_1<(l0.length:Int):=of_decide_eq_true qB215;obtain⟨ad135,A135_1,c135_1,e135,hx135_0,hx135_1,hl135_1,hi135_1⟩:=at_T26 HR0.1 x3_1 p135 q135;cases e135
      replace hx135_0:=(HB.1.cell (World.block_lt_of_cell? w _ hx135_0)).trans hx135_0;replace hx135_1:=(HB.1.cell (World.block_lt_of_cell? w _ hx135_1)).trans hx135_1;have HR135_1:=qAm hi135_1;have HC135_1:=qAm hl135_1;clear hi135_1 hl135_1;replace p135:=eq_true p135;replace q135:=eq_true q135;go_wp2_with (first|((with_reducible refine gate_callee (f:=51) rfl ?_);refine goesL_ (some 14) rfl rfl Try.func51 (by kernel_rfl) rfl #[.agg #[.int .i64 ((rd_T26 l0 x3_1).f0),.slice A135_1 ((rd_T26 l0 x3_1).f1).length c135_1]] rfl qB108 ?_;(with_reducible refine(spec_l09Is.calls k1 ((rd_T26 l0 x3_1).f0) _ _ ((rd_T26 l0 x3_1).f1) true _ ?side1 ?side2 A4.1).mono ?_);(case side1=>repeat(first|exact(Kd.C_below HR135_1.1 HB.1)|(with_reducible refine Kd.C_alloc ?_ _)|(with_reducible refine Kd.C_drewN ?_ _)|(with_reducible refine Kd.C_drew ?_)));(case side2=>exact HC135_1.1);rintro e w6 ⟨rfl,hb⟩;refine⟨_,rfl,?_⟩;have n0_:=qAm (below_step qB111 hb);clear HB;have HB:=n0_;clear n0_;(try clear hb);(try clear hb2);(try clear hk);(try clear hi)))
      (first|go_roundg k1|((try simp only [add_plain] at *);go_roundg k1))
      case measure=>have:=HK1.1;omega
      case rel=>exact⟨(wrap64 (x3_1+1)),qB216,H',⟨by have:=HK1.1;omega⟩,⟨by repeat(first|(with_reducible first|exact HB.1|apply below_alloc|apply pw_below_drewN|apply below_drew1)|exact HB.1)⟩⟩
     ·replace c5:=Bool.eq_false_iff.mpr c5;subst c5;have H1:(some 1)=some r:=by rw [if_neg (show ¬(false=true) by decide)] at H;exact H
      clear H;have H:=H1;clear H1;obtain rfl:=Option.some.inj H;have p135:0≤(x3_1:Int):=of_decide_eq_true qB215;have q135:x3_1<(l0.length:Int):=of_decide_eq_true qB215;obtain⟨ad135,A135_1,c135_1,e135,hx135_0,hx135_1,hl135_1,hi135_1⟩:=at_T26 HR0.1 x3_1 p135 q135;cases e135
      replace hx135_0:=(HB.1.cell (World.block_lt_of_cell? w _ hx135_0)).trans hx135_0;replace hx135_1:=(HB.1.cell (World.block_lt_of_cell? w _ hx135_1)).trans hx135_1;have HR135_1:=qAm hi135_1;have HC135_1:=qAm hl135_1;clear hi135_1 hl135_1;replace p135:=eq_true p135;replace q135:=eq_true q135;go_wp2_with (first|((with_reducible refine gate_callee (f:=51) rfl ?_);refine goesL_ (some 14) rfl rfl Try.func51 (by kernel_rfl) rfl #[.agg #[.int .i64 ((rd_T26 l0 x3_1).f0),.slice A135_1 ((rd_T26 l0 x3_1).f1).length c135_1]] rfl qB108 ?_;(with_reducible refine(spec_l09Is.calls k1 ((rd_T26 l0 x3_1).f0) _ _ ((rd_T26 l0 x3_1).f1) false _ ?side1 ?side2 A4.1).mono ?_);(case side1=>repeat(first|exact(Kd.C_below HR135_1.1 HB.1)|(with_reducible refine Kd.C_alloc ?_ _)|(with_reducible refine Kd.C_drewN ?_ _)|(with_reducible refine Kd.C_drew ?_)));(case side2=>exact HC135_1.1);rintro e w7 ⟨rfl,hb⟩;refine⟨_,rfl,?_⟩;have n0_:=qAm (below_step qB111 hb);clear HB;have HB:=n0_;clear n0_;(try clear hb);(try clear hb2);(try clear hk);(try clear hi)));go_ret;exact⟨by first|rfl|(simp [errW_none,errW_some] <;> rfl)|(simp [*,errW_none,errW_some] <;> rfl),by repeat(first|(with_reducible first|exact HB.1|apply below_alloc|apply pw_below_drewN|apply below_drew1)|exact HB.1)⟩
    ·rw [if_neg c3] at H;exact absurd H (by simp)
   ·rw [if_neg c2] at H;have c2b0:decide (x3_1<(l0.length:Int))=false:=decide_eq_false c2;clear c2;obtain rfl:=Option.some.inj H;go_wp2;go_ret;exact⟨by first|rfl|(simp [errW_none,errW_some] <;> rfl)|(simp [*,errW_none,errW_some] <;> rfl),by repeat(first|(with_reducible first|exact HB.1|apply below_alloc|apply pw_below_drewN|apply below_drew1)|exact HB.1)⟩

/-! ### spec_l09Norm: function 25 -/
def spec_l09Norm.f (a0_0:Int) (l0_1:List Int):Option (Int):=if 0<(l0_1.length:Int) then (if 1<(l0_1.length:Int) then (some (wrap64 ((wrap64 ((wrap64 ((rd l0_1 0)*(rd l0_1 0))) - (wrap64 ((rd l0_1 0)*(rd l0_1 1)))))+(wrap64 ((rd l0_1 1)*(rd l0_1 1)))))) else (none)) else (none)
set_option maxHeartbeats 8000000 in
set_option maxRecDepth 100000 in
theorem spec_l09Norm.calls (a0_0:Int) (A0_1:Option Addr) (c0_1:Nat) (l0_1:List Int) (r:Int) (w:World) (hr0_1:Kd.C (Kd.int .i64) w A0_1 l0_1.length l0_1) (hc0_1:l0_1.length≤c0_1) (h:spec_l09Norm.f a0_0 l0_1=some r):
  Calls Try.prog 25 #[.agg #[.int .i64 a0_0,.slice A0_1 l0_1.length c0_1]] w fun e w'=>e=.returned (.int .i64 r)∧Below w.heap.size w w':=by
 have hu26:=Try.underlying26;have HR0_1:=qAm hr0_1;have HC0_1:=qAm hc0_1;clear hr0_1 hc0_1;have HB:=qAm (Below.refl w.heap.size w);have H:(if 0<(l0_1.length:Int) then (if 1<(l0_1.length:Int) then (some (wrap64 ((wrap64 ((wrap64 ((rd l0_1 0)*(rd l0_1 0))) - (wrap64 ((rd l0_1 0)*(rd l0_1 1)))))+(wrap64 ((rd l0_1 1)*(rd l0_1 1)))))) else (none)) else (none))=some r:=h;clear h
 by_cases c2:0<(l0_1.length:Int)
 ·rw [if_pos c2] at H;have c2b0:decide (0<(l0_1.length:Int))=true:=decide_eq_true c2;have c2b1:decide (0<l0_1.length)=true:=decide_eq_true (by omega);clear c2
  by_cases c3:1<(l0_1.length:Int)
  ·rw [if_pos c3] at H;have c3b0:decide (1<(l0_1.length:Int))=true:=decide_eq_true c3;have c3b1:decide (1<l0_1.length)=true:=decide_eq_true (by omega);clear c3;obtain rfl:=Option.some.inj H;go_enter Try.func25,Try.ntmps25;go_wp2_with (first|((with_reducible refine gate_dst (N:=1) rfl ?_);refine box_event qL (N:=1) qL (cs:=#[.int .i64 a0_0,.slice A0_1 l0_1.length c0_1]) (t:=26) qR ?_;intro gb137 hg w4 hbox hb;have n0_:=qAm (below_step qB111 hb);have n1_:=qAm (hbox);have n2_:=qAm ((by rw [hg];exact(below_size qB111):w.heap.size≤gb137));have n3_:=qAm ((by rw [hg];exact(below_size qB111):w.heap.size≤gb137));clear HB;have HB:=n0_;have BK137:=n1_;have GW137:=n2_;have GE137:=n3_;clear n0_ n1_ n2_ n3_;clear hb hbox hg;have hcz5_0:w4.cell? ⟨gb137,0,none⟩=some (.int .i64 a0_0):=(blk_cell BK137.1 0).trans rfl;have hcz5_1:w4.cell? ⟨gb137,1,none⟩=some (.slice A0_1 l0_1.length c0_1):=(blk_cell BK137.1 1).trans rfl;have hfz5_0:=blk_frozen BK137.1 0;have hfz5_1:=blk_frozen BK137.1 1;have p138:0≤(0:Int):=(by omega);have q138:0<(l0_1.length:Int):=of_decide_eq_true qB215;obtain⟨ad138,e138,hx138_0⟩:=Kd.at_int HR0_1.1 0 p138 q138;cases e138;have qi138:(0<l0_1.length)=True:=eq_true (by omega);(try rw [show((0:Int)).toNat=0 from rfl] at hx138_0);(try rw [Addr.add_zero'] at hx138_0);replace hx138_0:=(HB.1.cell (World.block_lt_of_cell? w _ hx138_0)).trans hx138_0;replace p138:=eq_true p138;replace q138:=eq_true q138;have p139:0≤(1:Int):=(by omega);have q139:1<(l0_1.length:Int):=of_decide_eq_true qB215;obtain⟨ad139,e139,hx139_0⟩:=Kd.at_int HR0_1.1 1 p139 q139;obtain rfl:ad138=ad139:=(by injection e139);(try simp only [show(1:Int).toNat=1 from rfl,Nat.reduceMul,Nat.reduceEqDiff,Go.Addr.add,↓reduceIte] at hx139_0);have qi139:(1<l0_1.length)=True:=eq_true (by omega);(try rw [show((1:Int)).toNat=1 from rfl] at hx139_0);replace hx139_0:=(HB.1.cell (World.block_lt_of_cell? w _ hx139_0)).trans hx139_0;replace p139:=eq_true p139;replace q139:=eq_true q139));repeat(go_quiet (first|((with_reducible refine gate_dst (N:=1) rfl ?_);refine box_event qL (N:=1) qL (cs:=#[.int .i64 a0_0,.slice A0_1 l0_1.length c0_1]) (t:=26) qR ?_;intro gb137 hg w4 hbox hb;have n0_:=qAm (below_step qB111 hb);have n1_:=qAm (hbox);have n2_:=qAm ((by rw [hg];exact(below_size qB111):w.heap.size≤gb137));have n3_:=qAm ((by rw [hg];exact(below_size qB111):w.heap.size≤gb137));clear HB;have HB:=n0_;have BK137:=n1_;have GW137:=n2_;have GE137:=n3_;clear n0_ n1_ n2_ n3_;clear hb hbox hg;have hcz5_0:w4.cell? ⟨gb137,0,none⟩=some (.int .i64 a0_0):=(blk_cell BK137.1 0).trans rfl;have hcz5_1:w4.cell? ⟨gb137,1,none⟩=some (.slice A0_1 l0_1.length c0_1):=(blk_cell BK137.1 1).trans rfl;have hfz5_0:=blk_frozen BK137.1 0;have hfz5_1:=blk_frozen BK137.1 1;have p138:0≤(0:Int):=(by omega);have q138:0<(l0_1.length:Int):=of_decide_eq_true qB215;obtain⟨ad138,e138,hx138_0⟩:=Kd.at_int HR0_1.1 0 p138 q138;cases e138;have qi138:(0<l0_1.length)=True:=eq_true (by omega);(try rw [show((0:Int)).toNat=0 from rfl] at hx138_0);(try rw [Addr.add_zero'] at hx138_0);replace hx138_0:=(HB.1.cell (World.block_lt_of_cell? w _ hx138_0)).trans hx138_0;replace p138:=eq_true p138;replace q138:=eq_true q138;have p139:0≤(1:Int):=(by omega);have q139:1<(l0_1.length:Int):=of_decide_eq_true qB215;obtain⟨ad139,e139,hx139_0⟩:=Kd.at_int HR0_1.1 1 p139 q139;obtain rfl:ad138=ad139:=(by injection e139);(try simp only [show(1:Int).toNat=1 from rfl,Nat.reduceMul,Nat.reduceEqDiff,Go.Addr.add,↓reduceIte] at hx139_0);have qi139:(1<l0_1.length)=True:=eq_true (by omega);(try rw [show((1:Int)).toNat=1 from rfl] at hx139_0);replace hx139_0:=(HB.1.cell (World.block_lt_of_cell? w _ hx139_0)).trans hx139_0;replace p139:=eq_true p139;replace q139:=eq_true q139));try go_wp2_with (first|((with_reducible refine gate_dst (N:=1) rfl ?_);refine box_event qL (N:=1) qL (cs:=#[.int .i64 a0_0,.slice A0_1 l0_1.length c0_1]) (t:=26) qR ?_;intro gb137 hg w4 hbox hb;have n0_:=qAm (below_step qB111 hb);have n1_:=qAm (hbox);have n2_:=qAm ((by rw [hg];exact(below_size qB111):w.heap.size≤gb137));have n3_:=qAm ((by rw [hg];exact(below_size qB111):w.heap.size≤gb137));clear HB;have HB:=n0_;have BK137:=n1_;have GW137:=n2_;have GE137:=n3_;clear n0_ n1_ n2_ n3_;clear hb hbox hg;have hcz5_0:w4.cell? ⟨gb137,0,none⟩=some (.int .i64 a0_0):=(blk_cell BK137.1 0).trans rfl;have hcz5_1:w4.cell? ⟨gb137,1,none⟩=some (.slice A0_1 l0_1.length c0_1):=(blk_cell BK137.1 1).trans rfl;have hfz5_0:=blk_frozen BK137.1 0;have hfz5_1:=blk_frozen BK137.1 1;have p138:0≤(0:Int):=(by omega);have q138:0<(l0_1.length:Int):=of_decide_eq_true qB215;obtain⟨ad138,e138,hx138_0⟩:=Kd.at_int HR0_1.1 0 p138 q138;cases e138;have qi138:(0<l0_1.length)=True:=eq_true (by omega);(try rw [show((0:Int)).toNat=0 from rfl] at hx138_0);(try rw [Addr.add_zero'] at hx138_0);replace hx138_0:=(HB.1.cell (World.block_lt_of_cell? w _ hx138_0)).trans hx138_0;replace p138:=eq_true p138;replace q138:=eq_true q138;have p139:0≤(1:Int):=(by omega);have q139:1<(l0_1.length:Int):=of_decide_eq_true qB215;obtain⟨ad139,e139,hx139_0⟩:=Kd.at_int HR0_1.1 1 p139 q139;obtain rfl:ad138=ad139:=(by injection e139);(try simp only [show(1:Int).toNat=1 from rfl,Nat.reduceMul,Nat.reduceEqDiff,Go.Addr.add,↓reduceIte] at hx139_0);have qi139:(1<l0_1.length)=True:=eq_true (by omega);(try rw [show((1:Int)).toNat=1 from rfl] at hx139_0);replace hx139_0:=(HB.1.cell (World.block_lt_of_cell? w _ hx139_0)).trans hx139_0;replace p139:=eq_true p139;replace q139:=eq_true q139)))
   go_ret;exact⟨by first|rfl|(simp [errW_none,errW_some] <;> rfl)|(simp [*,errW_none,errW_some] <;> rfl),by repeat(first|(with_reducible first|exact HB.1|apply below_alloc|apply pw_below_drewN|apply below_drew1|refine below_set ?_ GE137.1)|exact HB.1)⟩
  ·rw [if_neg c3] at H;exact absurd H (by simp)
 ·rw [if_neg c2] at H;exact absurd H (by simp)

/-! ### spec_l09Least: function 61 -/
def spec_l09Least.l0:Nat→Int→Int→Option (Int)
 |0,_,_=>none
 |k+1,x0,x3=>if (wrap64 (x3*x3))≤x0 then (if x3=0 then (none) else (if (Int.tmod x0 x3)=0 then (some x3) else (spec_l09Least.l0 k x0 (wrap64 (x3+1))))) else (some x0)
def spec_l09Least.f (k:Nat) (a0:Int):Option (Int):=spec_l09Least.l0 k a0 2
theorem spec_l09Least.mono_l:∀k,(∀y0 y1,LeO (spec_l09Least.l0 k y0 y1) (spec_l09Least.l0 (k+1) y0 y1))
 |0=>fun _ _ r h=>by simp [spec_l09Least.l0] at h
 |k+1=>by
  have ih0:=spec_l09Least.mono_l k
  ·intro y0 y1;unfold spec_l09Least.l0;repeat' first
   |(with_reducible exact ih0 _ _)
   |(with_reducible exact LeO.refl _)
   |(with_reducible exact LeO.none _)
   |(with_reducible refine LeO.ite ?_ ?_)
   |(with_reducible refine LeO.bind ?_ (fun _=>?_))
   |exact ih0 _ _
   |exact LeO.none _
   |refine LeO.ite ?_ ?_
   |refine LeO.bind ?_ (fun _=>?_)
theorem spec_l09Least.mono:∀a0 k,LeO (spec_l09Least.f k a0) (spec_l09Least.f (k+1) a0):=by
 intro a0 k;have ih0:=spec_l09Least.mono_l k;unfold spec_l09Least.f;repeat' first
   |(with_reducible exact ih0 _ _)
   |(with_reducible exact LeO.refl _)
   |(with_reducible exact LeO.none _)
   |(with_reducible refine LeO.ite ?_ ?_)
   |(with_reducible refine LeO.bind ?_ (fun _=>?_))
   |exact ih0 _ _
   |exact LeO.none _
   |refine LeO.ite ?_ ?_
   |refine LeO.bind ?_ (fun _=>?_)
set_option maxHeartbeats 8000000 in
set_option maxRecDepth 100000 in
theorem spec_l09Least.calls (k:Nat) (a0:Int) (r:Int) (w:World) (h:spec_l09Least.f k a0=some r):
  Calls Try.prog 61 #[.int .i64 a0] w fun e w'=>e=.returned (.int .i64 r)∧Drawn0 w w':=by
 have H:(spec_l09Least.l0 k a0 2)=some r:=h;clear h;have H':=qAm H;clear H;go_enter Try.func61,Try.ntmps61;go_wp2;try simp only [Act.put,qSa,qSc,qSb]
 go_loopg [3] k (fun kq v3 w'=>∃(x3_1:Int),v3=.int .i64 x3_1∧Aside0 (spec_l09Least.l0 kq a0 x3_1=some r)∧Aside0 (kq≤k)∧Drawn0 w w')
 case atStart=>exact⟨(2),qB216,H',⟨Nat.le_refl _⟩,by repeat(first|exact Drawn0.refl _|apply Drawn0.step)⟩
 case round=>
  clear H';obtain⟨x3_1,rfl,HA,HK1,⟨m1,rfl⟩⟩:=hrel;cases gk with
  |zero=>exact absurd HA.1 (by simp [spec_l09Least.l0])
  |succ k1=>
   have H:=HA.1;clear HA;simp only [spec_l09Least.l0] at H
   by_cases c2:(wrap64 (x3_1*x3_1))≤a0
   ·rw [if_pos c2] at H;have c2b0:decide ((wrap64 (x3_1*x3_1))≤a0)=true:=decide_eq_true c2;clear c2
    by_cases c3:x3_1=0
    ·rw [if_pos c3] at H;exact absurd H (by simp)
    ·rw [if_neg c3] at H;have c3b0:(x3_1==0)=false:=beq_eq_false_iff_ne.mpr c3;have c3b1:(x3_1 !=0)=true:=bne_iff_ne.mpr c3
     by_cases c4:(Int.tmod a0 x3_1)=0
     ·rw [if_pos c4] at H;have c4b0:((Int.tmod a0 x3_1)==0)=true:=beq_iff_eq.mpr c4;have c4b1:((Int.tmod a0 x3_1) !=0)=false:=bne_eq_false_iff_eq.mpr c4;clear c4;obtain rfl:=Option.some.inj H;go_wp2;go_ret;exact⟨by first|rfl|(simp;done)|(simp [*];done),by repeat(first|exact Drawn0.refl _|apply Drawn0.step)⟩
     ·rw [if_neg c4] at H;have c4b0:((Int.tmod a0 x3_1)==0)=false:=beq_eq_false_iff_ne.mpr c4;have c4b1:((Int.tmod a0 x3_1) !=0)=true:=bne_iff_ne.mpr c4;have H':=qAm H;clear H;go_wp2
      (first|go_roundg k1|((try simp only [add_plain] at *);go_roundg k1))
      case measure=>have:=HK1.1;omega
      case rel=>exact⟨(wrap64 (x3_1+1)),qB216,H',⟨by have:=HK1.1;omega⟩,by repeat(first|exact Drawn0.refl _|apply Drawn0.step)⟩
   ·rw [if_neg c2] at H;have c2b0:decide ((wrap64 (x3_1*x3_1))≤a0)=false:=decide_eq_false c2;clear c2;obtain rfl:=Option.some.inj H;go_wp2;go_ret;exact⟨by first|rfl|(simp;done)|(simp [*];done),by repeat(first|exact Drawn0.refl _|apply Drawn0.step)⟩

end Go.Proofs.Ytejpliodhnglbaa.PFnExactCubicSymbol
