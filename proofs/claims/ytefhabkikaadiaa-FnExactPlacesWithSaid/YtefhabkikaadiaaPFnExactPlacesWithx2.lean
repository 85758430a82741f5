/- The functions that the law reaches, as plain functions, each with the proof that the program comes to it; no condition. Written by a program of this session (wip/mp.py) over the printing of the kit; what is marked HAND is told by hand. -/
import Derived.Test.YtefhabkikaadiaaPFnExactPlacesWithx0
import Derived.Test.YtefhabkikaadiaaPFnExactPlacesWithx1
namespace Go.Proofs.Ytefhabkikaadiaa.PFnExactPlacesWith
open Go.RowKit Go.Proofs.YtefhabkikaadiaaW.PrintWords Go.Proofs.YtefhabkikaadiaaW.PrintLast Go.Proofs.YtefhabkikaadiaaW.PrintMore
attribute [local go_sem] max2_int min2_int max_two min_two max_three min_three max_four min_four   -- for this text's walks alone
set_option linter.unusedVariables false
set_option linter.unusedSimpArgs false

/-! ### spec_l01Is: function 54 -/
def spec_l01Is.f (k:Nat) (a0_0:Int) (l0_1:List Int):Option (Bool):=(spec_l01In.f a0_0 1 16).bind fun t108=>(if t108=true then ((spec_l01Phi.f k a0_0).bind fun t109=>(if (l0_1.length:Int)=t109 then ((spec_l01Fits.f k a0_0 l0_1).bind fun t110=>(some t110)) else (some false))) else (some false))
theorem spec_l01Is.mono:∀a0 a1 k,LeO (spec_l01Is.f k a0 a1) (spec_l01Is.f (k+1) a0 a1):=by
  intro a0 a1 k;unfold spec_l01Is.f;repeat' first
      |(with_reducible exact spec_l01Fits.mono _ _ _)
      |(with_reducible exact spec_l01Phi.mono _ _)
      |(with_reducible exact LeO.refl _)
      |(with_reducible exact LeO.none _)
      |(with_reducible refine LeO.ite ?_ ?_)
      |(with_reducible refine LeO.bind ?_ (fun _=>?_))
      |exact spec_l01Fits.mono _ _ _
      |exact spec_l01Phi.mono _ _
      |exact LeO.none _
      |refine LeO.ite ?_ ?_
      |refine LeO.bind ?_ (fun _=>?_)
def spec_l01Is.T1:Bool×List (List Nat×List Nat):=(true,[([],[]),([0],[0]),([1],[1]),([2,2],[2]),([3],[3]),([4,3],[3,4]),([5,3],[3,5]),([3],[3]),([7,3],[3,7]),([8,3,3],[3,8]),([6,9,3],[3,6,9]),([3,10],[3,10]),([11,9],[11]),([12],[12]),([13,12,12],[12,13]),([12,14],[12,14]),([15,14,0,1,2,3,4,5,6,7,8,9,10,11,12,13,14,15],[15])])
def spec_l01Is.B1:List Nat:=[0,1,3,7,15,31,63,15,143,399,1023,2047,4095,8191,16383,32767,65535]
theorem spec_l01Is.tab1:rtab .any (opsOf Try.f54 1)=spec_l01Is.T1:=by kernel_rfl
theorem spec_l01Is.bits1:waitsOk spec_l01Is.T1.2 spec_l01Is.B1=true:=by kernel_rfl
set_option maxHeartbeats 8000000 in
set_option maxRecDepth 100000 in
theorem spec_l01Is.calls (k:Nat) (a0_0:Int) (A0_1:Option Addr) (c0_1:Nat) (l0_1:List Int) (r:Bool) (w:World) (hr0_1:Kd.C (Kd.int .i64) w A0_1 l0_1.length l0_1) (hc0_1:l0_1.length≤c0_1) (h:spec_l01Is.f k a0_0 l0_1=some r):
    Calls Try.prog 54 #[.agg #[.int .i64 a0_0,.slice A0_1 l0_1.length c0_1]] w fun e w'=>e=.returned (.bool r)∧Below w.heap.size w w':=by
  have hu28:=Try.underlying28;have HR0_1:=qAm hr0_1;have HC0_1:=qAm hc0_1;clear hr0_1 hc0_1;have HB:=qAm (Below.refl w.heap.size w);have H:((spec_l01In.f a0_0 1 16).bind fun t108=>(if t108=true then ((spec_l01Phi.f k a0_0).bind fun t109=>(if (l0_1.length:Int)=t109 then ((spec_l01Fits.f k a0_0 l0_1).bind fun t110=>(some t110)) else (some false))) else (some false)))=some r:=h;clear h;replace H:=qOb H;obtain⟨t108,A20,H⟩:=H;replace H:(if t108=true then ((spec_l01Phi.f k a0_0).bind fun t109=>(if (l0_1.length:Int)=t109 then ((spec_l01Fits.f k a0_0 l0_1).bind fun t110=>(some t110)) else (some false))) else (some false))=some r:=H;have A2:=qAm A20;clear A20
  by_cases c3:t108=true
  · subst c3
    have H1:((spec_l01Phi.f k a0_0).bind fun t109=>(if (l0_1.length:Int)=t109 then ((spec_l01Fits.f k a0_0 l0_1).bind fun t110=>(some t110)) else (some false)))=some r:=by rw [if_pos rfl] at H;exact H
    clear H;have H:=H1;clear H1;replace H:=qOb H;obtain⟨t109,A40,H⟩:=H;replace H:(if (l0_1.length:Int)=t109 then ((spec_l01Fits.f k a0_0 l0_1).bind fun t110=>(some t110)) else (some false))=some r:=H;have A4:=qAm A40;clear A40
    by_cases c5:(l0_1.length:Int)=t109
    · rw [if_pos c5] at H
      have c5b0:((l0_1.length:Int)==t109)=true:=beq_iff_eq.mpr c5;have c5b1:((l0_1.length:Int) !=t109)=false:=bne_eq_false_iff_eq.mpr c5;clear c5;replace H:=qOb H;obtain⟨t110,A60,H⟩:=H;replace H:(some t110)=some r:=H;have A6:=qAm A60;clear A60;obtain rfl:=Option.some.inj H;go_enter Try.func54,Try.ntmps54;try go_wp2_with (first|((with_reducible refine gate_dst (N:=1) rfl ?_);(try(refine gate_guard (by rfl) ?_;dsimp only));refine box_event ?hg (N:=1) ?hd (cs:=#[.int .i64 a0_0,.slice A0_1 l0_1.length c0_1]) (t:=28) ?hr ?_;(case hd=>rfl);(case hg=>rfl);(case hr=>first|(go_simp;done)|(go_simp;rfl));intro gb107 hg w7 hbox hb;have n0_:=qAm (below_step qB15 hb);have n1_:=qAm (hbox);have n2_:=qAm ((by rw [hg];exact(below_size qB15):w.heap.size≤gb107));have n3_:=qAm ((by rw [hg];exact(below_size qB15):w.heap.size≤gb107));clear HB;have HB:=n0_;have BK107:=n1_;have GW107:=n2_;have GE107:=n3_;clear n0_ n1_ n2_ n3_;clear hb hbox hg))
      have n0_:=qAm (blk_drew BK107.1);have n1_:=qAm (below_drew1 HB.1);clear BK107 HB;have BK107:=n0_;have HB:=n1_;clear n0_ n1_;refine start_ (n:=17) (S:=fun w'=>w'.cell? ⟨gb107,0,none⟩=some (.int .i64 a0_0)∧w'.cell? ⟨gb107,1,none⟩=some (.slice A0_1 l0_1.length c0_1)) (ds:=[]) #[false,false,false,false,false,false,false,false,false,false,false,false,false,false,false,false,false] (by kernel_rfl) rfl rfl ⟨(blk_cell BK107.1 0).trans rfl,(blk_cell BK107.1 1).trans rfl⟩ (fun hHeld=>?_);refine with_tabW spec_l01Is.tab1 spec_l01Is.bits1 (fun HT_ HW_=>?_);generalize w7.drew=w8 at BK107 HB hHeld ⊢;refine pure_ (i:=0) (N:=some 3) (v:=?_) (a':=?_) #[true,false,false,false,false,false,false,false,false,false,false,false,false,false,false,false,false] rfl rfl (any_of HT_.1 (by kernel_rfl)) (fun _ _ _ h=>h) (Or.inl ⟨by rfl,?_⟩) ?_ ?_;rotate_left
      · intro w'
        go_simp;with_reducible rfl
      rotate_left
      · simp only [Act.put,qSa,qSb,qSc,i64_w,i32_w]
        rfl
      refine take_ (i:=1) (N:=some 4) (v:=?_) (a':=?_) #[true,true,false,false,false,false,false,false,false,false,false,false,false,false,false,false,false] rfl rfl (take_ofW HT_.1 HW_.1 (by kernel_rfl)) (fun _ _ _ h=>h) (Or.inl ⟨by rfl,?_⟩) hHeld ?_ ?_;rotate_left
      · rintro w' ⟨s0,s1⟩
        go_simp;with_reducible rfl
      rotate_left
      · simp only [Act.put,qSa,qSb,qSc,i64_w,i32_w]
        rfl
      refine one_ (i:=2) (N:=some 5) #[true,true,true,false,false,false,false,false,false,false,false,false,false,false,false,false,false] rfl rfl (one_of HT_.1 (by kernel_rfl)) (by decide) (fun K hK=>?_);refine goes_ Try.func83 (by kernel_rfl) rfl #[.int .i64 a0_0,.int .i64 1,.int .i64 16] (by rfl) rfl rfl qB14 ?_;with_reducible refine(spec_l01In.calls a0_0 1 16 true _ A2.1).mono ?_
      rintro e w' ⟨rfl,⟨nd,rfl⟩⟩;refine⟨_,rfl,?_⟩;refine hK.out _ _ ⟨(blk_cell BK107.1 0).trans rfl,(blk_cell BK107.1 1).trans rfl⟩ (fun hHeld=>?_);clear hK K;refine norm_ (a':=?_) ?_ ?_;rotate_left
      · show Act.put _ (some 5) _=_
        simp only [Act.put,qSa,qSb,qSc,i64_w,i32_w];rfl
      refine pure_ (i:=3) (N:=some 6) (v:=?_) (a':=?_) #[true,true,true,true,false,false,false,false,false,false,false,false,false,false,false,false,false] rfl rfl (any_of HT_.1 (by kernel_rfl)) (fun _ _ _ h=>h) (Or.inl ⟨by rfl,?_⟩) ?_ ?_;rotate_left
      · intro w'
        go_simp;with_reducible rfl
      rotate_left
      · simp only [Act.put,qSa,qSb,qSc,i64_w,i32_w]
        rfl
      refine pure_ (i:=4) (N:=some 7) (v:=?_) (a':=?_) #[true,true,true,true,true,false,false,false,false,false,false,false,false,false,false,false,false] rfl rfl (any_of HT_.1 (by kernel_rfl)) (fun _ _ _ h=>h) (Or.inl ⟨by rfl,?_⟩) ?_ ?_;rotate_left
      · intro w'
        go_simp;with_reducible rfl
      rotate_left
      · simp only [Act.put,qSa,qSb,qSc,i64_w,i32_w]
        rfl
      refine pure_ (i:=7) (N:=some 10) (v:=?_) (a':=?_) #[true,true,true,true,true,false,false,true,false,false,false,false,false,false,false,false,false] rfl rfl (any_of HT_.1 (by kernel_rfl)) (fun _ _ _ h=>h) (Or.inl ⟨by rfl,?_⟩) ?_ ?_;rotate_left
      · intro w'
        go_simp;with_reducible rfl
      rotate_left
      · simp only [Act.put,qSa,qSb,qSc,i64_w,i32_w]
        rfl
      refine take_ (i:=5) (N:=some 8) (v:=?_) (a':=?_) #[true,true,true,true,true,true,false,true,false,false,false,false,false,false,false,false,false] rfl rfl (take_ofW HT_.1 HW_.1 (by kernel_rfl)) (fun _ _ _ h=>h) (Or.inl ⟨by rfl,?_⟩) hHeld ?_ ?_;rotate_left
      · rintro w' ⟨s0,s1⟩
        go_simp;with_reducible rfl
      rotate_left
      · simp only [Act.put,qSa,qSb,qSc,i64_w,i32_w]
        rfl
      refine pure_ (i:=6) (N:=some 9) (v:=?_) (a':=?_) #[true,true,true,true,true,true,true,true,false,false,false,false,false,false,false,false,false] rfl rfl (any_of HT_.1 (by kernel_rfl)) (fun _ _ _ h=>h) (Or.inl ⟨by rfl,?_⟩) ?_ ?_;rotate_left
      · intro w'
        go_simp;with_reducible rfl
      rotate_left
      · simp only [Act.put,qSa,qSb,qSc,i64_w,i32_w]
        rfl
      refine take_ (i:=8) (N:=some 11) (v:=?_) (a':=?_) #[true,true,true,true,true,true,true,true,true,false,false,false,false,false,false,false,false] rfl rfl (take_ofW HT_.1 HW_.1 (by kernel_rfl)) (fun _ _ _ h=>h) (Or.inl ⟨by rfl,?_⟩) hHeld ?_ ?_;rotate_left
      · rintro w' ⟨s0,s1⟩
        go_simp;with_reducible rfl
      rotate_left
      · simp only [Act.put,qSa,qSb,qSc,i64_w,i32_w]
        rfl
      refine one_ (i:=9) (N:=some 12) #[true,true,true,true,true,true,true,true,true,true,false,false,false,false,false,false,false] rfl rfl (one_of HT_.1 (by kernel_rfl)) (by decide) (fun K hK=>?_);refine goes_ Try.func99 (by kernel_rfl) rfl #[.int .i64 a0_0] (by rfl) rfl rfl qB14 ?_;with_reducible refine(spec_l01Phi.calls k a0_0 t109 _ A4.1).mono ?_
      rintro e w9 ⟨rfl,hb⟩;refine⟨_,rfl,?_⟩;have n0_:=qAm (blk_below (g:=gb107) (o:=.cells #[.int .i64 a0_0,.slice A0_1 l0_1.length c0_1] 28 (0,0)) qB17 hb);have n1_:=qAm (below_step qB7 hb);clear BK107 HB;have BK107:=n0_;have HB:=n1_;clear n0_ n1_
      (try clear hb)
      (try clear hb2)
      (try clear hk)
      (try clear hi)
      refine hK.out _ _ ⟨(blk_cell BK107.1 0).trans rfl,(blk_cell BK107.1 1).trans rfl⟩ (fun hHeld=>?_);clear hK K;refine norm_ (a':=?_) ?_ ?_;rotate_left
      · show Act.put _ (some 12) _=_
        simp only [Act.put,qSa,qSb,qSc,i64_w,i32_w];rfl
      refine pure_ (i:=10) (N:=some 13) (v:=?_) (a':=?_) #[true,true,true,true,true,true,true,true,true,true,true,false,false,false,false,false,false] rfl rfl (any_of HT_.1 (by kernel_rfl)) (fun _ _ _ h=>h) (Or.inl ⟨by rfl,?_⟩) ?_ ?_;rotate_left
      · intro w'
        go_simp;with_reducible rfl
      rotate_left
      · simp only [Act.put,qSa,qSb,qSc,i64_w,i32_w]
        rfl
      refine pure_ (i:=11) (N:=some 14) (v:=?_) (a':=?_) #[true,true,true,true,true,true,true,true,true,true,true,true,false,false,false,false,false] rfl rfl (any_of HT_.1 (by kernel_rfl)) (fun _ _ _ h=>h) (Or.inl ⟨by rfl,?_⟩) ?_ ?_;rotate_left
      · intro w'
        go_simp;with_reducible rfl
      rotate_left
      · simp only [Act.put,qSa,qSb,qSc,i64_w,i32_w]
        rfl
      refine pure_ (i:=12) (N:=some 15) (v:=?_) (a':=?_) #[true,true,true,true,true,true,true,true,true,true,true,true,true,false,false,false,false] rfl rfl (any_of HT_.1 (by kernel_rfl)) (fun _ _ _ h=>h) (Or.inl ⟨by rfl,?_⟩) ?_ ?_;rotate_left
      · intro w'
        go_simp;with_reducible rfl
      rotate_left
      · simp only [Act.put,qSa,qSb,qSc,i64_w,i32_w]
        rfl
      refine take_ (i:=13) (N:=some 16) (v:=?_) (a':=?_) #[true,true,true,true,true,true,true,true,true,true,true,true,true,true,false,false,false] rfl rfl (take_ofW HT_.1 HW_.1 (by kernel_rfl)) (fun _ _ _ h=>h) (Or.inl ⟨by rfl,?_⟩) hHeld ?_ ?_;rotate_left
      · rintro w' ⟨s0,s1⟩
        go_simp;with_reducible rfl
      rotate_left
      · simp only [Act.put,qSa,qSb,qSc,i64_w,i32_w]
        rfl
      refine one_ (i:=14) (N:=some 17) #[true,true,true,true,true,true,true,true,true,true,true,true,true,true,true,false,false] rfl rfl (one_of HT_.1 (by kernel_rfl)) (by decide) (fun K hK=>?_);refine goes_ Try.func100 (by kernel_rfl) rfl #[.agg #[.int .i64 a0_0,.slice A0_1 l0_1.length c0_1]] (by rfl) rfl rfl qB14 ?_;with_reducible refine(spec_l01Fits.calls k a0_0 _ _ l0_1 t110 _ ?side1 ?side2 A6.1).mono ?_
      (case side1=>repeat(first|exact(Kd.C_below HR0_1.1 HB.1)|(with_reducible refine Kd.C_alloc ?_ _)|(with_reducible refine Kd.C_drewN ?_ _)|(with_reducible refine Kd.C_drew ?_)))
      (case side2=>exact HC0_1.1)
      rintro e w10 ⟨rfl,hb⟩;refine⟨_,rfl,?_⟩;have n0_:=qAm (blk_below (g:=gb107) (o:=.cells #[.int .i64 a0_0,.slice A0_1 l0_1.length c0_1] 28 (0,0)) qB17 hb);have n1_:=qAm (below_step qB7 hb);clear BK107 HB;have BK107:=n0_;have HB:=n1_;clear n0_ n1_
      (try clear hb)
      (try clear hb2)
      (try clear hk)
      (try clear hi)
      refine hK.out _ _ ⟨(blk_cell BK107.1 0).trans rfl,(blk_cell BK107.1 1).trans rfl⟩ (fun hHeld=>?_);clear hK K;refine norm_ (a':=?_) ?_ ?_;rotate_left
      · show Act.put _ (some 17) _=_
        simp only [Act.put,qSa,qSb,qSc,i64_w,i32_w];rfl
      refine pure_ (i:=15) (N:=some 18) (v:=?_) (a':=?_) #[true,true,true,true,true,true,true,true,true,true,true,true,true,true,true,true,false] rfl rfl (any_of HT_.1 (by kernel_rfl)) (fun _ _ _ h=>h) (Or.inl ⟨by rfl,?_⟩) ?_ ?_;rotate_left
      · intro w'
        go_simp;with_reducible rfl
      rotate_left
      · simp only [Act.put,qSa,qSb,qSc,i64_w,i32_w]
        rfl
      refine pure_ (i:=16) (N:=some 2) (v:=?_) (a':=?_) #[true,true,true,true,true,true,true,true,true,true,true,true,true,true,true,true,true] rfl rfl (any_of HT_.1 (by kernel_rfl)) (fun _ _ _ h=>h) (Or.inl ⟨by rfl,?_⟩) ?_ ?_;rotate_left
      · intro w'
        go_simp;with_reducible rfl
      rotate_left
      · simp only [Act.put,qSa,qSb,qSc,i64_w,i32_w]
        rfl
      refine done_ (done_of HT_.1 (by kernel_rfl)) ?_;try go_wp2
      go_ret;exact⟨by first|rfl|(simp [errW_none,errW_some] <;> rfl)|(simp [*,errW_none,errW_some] <;> rfl),by repeat(first|(with_reducible first|exact HB.1|apply below_alloc|apply pw_below_drewN|apply below_drew1|refine below_set ?_ GE107.1)|exact HB.1)⟩
    · rw [if_neg c5] at H
      have c5b0:((l0_1.length:Int)==t109)=false:=beq_eq_false_iff_ne.mpr c5;have c5b1:((l0_1.length:Int) !=t109)=true:=bne_iff_ne.mpr c5;obtain rfl:=Option.some.inj H;go_enter Try.func54,Try.ntmps54;try go_wp2_with (first|((with_reducible refine gate_dst (N:=1) rfl ?_);(try(refine gate_guard (by rfl) ?_;dsimp only));refine box_event ?hg (N:=1) ?hd (cs:=#[.int .i64 a0_0,.slice A0_1 l0_1.length c0_1]) (t:=28) ?hr ?_;(case hd=>rfl);(case hg=>rfl);(case hr=>first|(go_simp;done)|(go_simp;rfl));intro gb107 hg w11 hbox hb;have n0_:=qAm (below_step qB15 hb);have n1_:=qAm (hbox);have n2_:=qAm ((by rw [hg];exact(below_size qB15):w.heap.size≤gb107));have n3_:=qAm ((by rw [hg];exact(below_size qB15):w.heap.size≤gb107));clear HB;have HB:=n0_;have BK107:=n1_;have GW107:=n2_;have GE107:=n3_;clear n0_ n1_ n2_ n3_;clear hb hbox hg))
      have n0_:=qAm (blk_drew BK107.1);have n1_:=qAm (below_drew1 HB.1);clear BK107 HB;have BK107:=n0_;have HB:=n1_;clear n0_ n1_;refine start_ (n:=17) (S:=fun w'=>w'.cell? ⟨gb107,0,none⟩=some (.int .i64 a0_0)∧w'.cell? ⟨gb107,1,none⟩=some (.slice A0_1 l0_1.length c0_1)) (ds:=[]) #[false,false,false,false,false,false,false,false,false,false,false,false,false,false,false,false,false] (by kernel_rfl) rfl rfl ⟨(blk_cell BK107.1 0).trans rfl,(blk_cell BK107.1 1).trans rfl⟩ (fun hHeld=>?_);refine with_tabW spec_l01Is.tab1 spec_l01Is.bits1 (fun HT_ HW_=>?_);generalize w11.drew=w12 at BK107 HB hHeld ⊢;refine pure_ (i:=0) (N:=some 3) (v:=?_) (a':=?_) #[true,false,false,false,false,false,false,false,false,false,false,false,false,false,false,false,false] rfl rfl (any_of HT_.1 (by kernel_rfl)) (fun _ _ _ h=>h) (Or.inl ⟨by rfl,?_⟩) ?_ ?_;rotate_left
      · intro w'
        go_simp;with_reducible rfl
      rotate_left
      · simp only [Act.put,qSa,qSb,qSc,i64_w,i32_w]
        rfl
      refine take_ (i:=1) (N:=some 4) (v:=?_) (a':=?_) #[true,true,false,false,false,false,false,false,false,false,false,false,false,false,false,false,false] rfl rfl (take_ofW HT_.1 HW_.1 (by kernel_rfl)) (fun _ _ _ h=>h) (Or.inl ⟨by rfl,?_⟩) hHeld ?_ ?_;rotate_left
      · rintro w' ⟨s0,s1⟩
        go_simp;with_reducible rfl
      rotate_left
      · simp only [Act.put,qSa,qSb,qSc,i64_w,i32_w]
        rfl
      refine one_ (i:=2) (N:=some 5) #[true,true,true,false,false,false,false,false,false,false,false,false,false,false,false,false,false] rfl rfl (one_of HT_.1 (by kernel_rfl)) (by decide) (fun K hK=>?_);refine goes_ Try.func83 (by kernel_rfl) rfl #[.int .i64 a0_0,.int .i64 1,.int .i64 16] (by rfl) rfl rfl qB14 ?_;with_reducible refine(spec_l01In.calls a0_0 1 16 true _ A2.1).mono ?_
      rintro e w' ⟨rfl,⟨nd,rfl⟩⟩;refine⟨_,rfl,?_⟩;refine hK.out _ _ ⟨(blk_cell BK107.1 0).trans rfl,(blk_cell BK107.1 1).trans rfl⟩ (fun hHeld=>?_);clear hK K;refine norm_ (a':=?_) ?_ ?_;rotate_left
      · show Act.put _ (some 5) _=_
        simp only [Act.put,qSa,qSb,qSc,i64_w,i32_w];rfl
      refine pure_ (i:=3) (N:=some 6) (v:=?_) (a':=?_) #[true,true,true,true,false,false,false,false,false,false,false,false,false,false,false,false,false] rfl rfl (any_of HT_.1 (by kernel_rfl)) (fun _ _ _ h=>h) (Or.inl ⟨by rfl,?_⟩) ?_ ?_;rotate_left
      · intro w'
        go_simp;with_reducible rfl
      rotate_left
      · simp only [Act.put,qSa,qSb,qSc,i64_w,i32_w]
        rfl
      refine pure_ (i:=4) (N:=some 7) (v:=?_) (a':=?_) #[true,true,true,true,true,false,false,false,false,false,false,false,false,false,false,false,false] rfl rfl (any_of HT_.1 (by kernel_rfl)) (fun _ _ _ h=>h) (Or.inl ⟨by rfl,?_⟩) ?_ ?_;rotate_left
      · intro w'
        go_simp;with_reducible rfl
      rotate_left
      · simp only [Act.put,qSa,qSb,qSc,i64_w,i32_w]
        rfl
      refine pure_ (i:=7) (N:=some 10) (v:=?_) (a':=?_) #[true,true,true,true,true,false,false,true,false,false,false,false,false,false,false,false,false] rfl rfl (any_of HT_.1 (by kernel_rfl)) (fun _ _ _ h=>h) (Or.inl ⟨by rfl,?_⟩) ?_ ?_;rotate_left
      · intro w'
        go_simp;with_reducible rfl
      rotate_left
      · simp only [Act.put,qSa,qSb,qSc,i64_w,i32_w]
        rfl
      refine take_ (i:=5) (N:=some 8) (v:=?_) (a':=?_) #[true,true,true,true,true,true,false,true,false,false,false,false,false,false,false,false,false] rfl rfl (take_ofW HT_.1 HW_.1 (by kernel_rfl)) (fun _ _ _ h=>h) (Or.inl ⟨by rfl,?_⟩) hHeld ?_ ?_;rotate_left
      · rintro w' ⟨s0,s1⟩
        go_simp;with_reducible rfl
      rotate_left
      · simp only [Act.put,qSa,qSb,qSc,i64_w,i32_w]
        rfl
      refine pure_ (i:=6) (N:=some 9) (v:=?_) (a':=?_) #[true,true,true,true,true,true,true,true,false,false,false,false,false,false,false,false,false] rfl rfl (any_of HT_.1 (by kernel_rfl)) (fun _ _ _ h=>h) (Or.inl ⟨by rfl,?_⟩) ?_ ?_;rotate_left
      · intro w'
        go_simp;with_reducible rfl
      rotate_left
      · simp only [Act.put,qSa,qSb,qSc,i64_w,i32_w]
        rfl
      refine take_ (i:=8) (N:=some 11) (v:=?_) (a':=?_) #[true,true,true,true,true,true,true,true,true,false,false,false,false,false,false,false,false] rfl rfl (take_ofW HT_.1 HW_.1 (by kernel_rfl)) (fun _ _ _ h=>h) (Or.inl ⟨by rfl,?_⟩) hHeld ?_ ?_;rotate_left
      · rintro w' ⟨s0,s1⟩
        go_simp;with_reducible rfl
      rotate_left
      · simp only [Act.put,qSa,qSb,qSc,i64_w,i32_w]
        rfl
      refine one_ (i:=9) (N:=some 12) #[true,true,true,true,true,true,true,true,true,true,false,false,false,false,false,false,false] rfl rfl (one_of HT_.1 (by kernel_rfl)) (by decide) (fun K hK=>?_);refine goes_ Try.func99 (by kernel_rfl) rfl #[.int .i64 a0_0] (by rfl) rfl rfl qB14 ?_;with_reducible refine(spec_l01Phi.calls k a0_0 t109 _ A4.1).mono ?_
      rintro e w13 ⟨rfl,hb⟩;refine⟨_,rfl,?_⟩;have n0_:=qAm (blk_below (g:=gb107) (o:=.cells #[.int .i64 a0_0,.slice A0_1 l0_1.length c0_1] 28 (0,0)) qB17 hb);have n1_:=qAm (below_step qB7 hb);clear BK107 HB;have BK107:=n0_;have HB:=n1_;clear n0_ n1_
      (try clear hb)
      (try clear hb2)
      (try clear hk)
      (try clear hi)
      refine hK.out _ _ ⟨(blk_cell BK107.1 0).trans rfl,(blk_cell BK107.1 1).trans rfl⟩ (fun hHeld=>?_);clear hK K;refine norm_ (a':=?_) ?_ ?_;rotate_left
      · show Act.put _ (some 12) _=_
        simp only [Act.put,qSa,qSb,qSc,i64_w,i32_w];rfl
      refine pure_ (i:=10) (N:=some 13) (v:=?_) (a':=?_) #[true,true,true,true,true,true,true,true,true,true,true,false,false,false,false,false,false] rfl rfl (any_of HT_.1 (by kernel_rfl)) (fun _ _ _ h=>h) (Or.inl ⟨by rfl,?_⟩) ?_ ?_;rotate_left
      · intro w'
        go_simp;with_reducible rfl
      rotate_left
      · simp only [Act.put,qSa,qSb,qSc,i64_w,i32_w]
        rfl
      refine pure_ (i:=11) (N:=some 14) (v:=?_) (a':=?_) #[true,true,true,true,true,true,true,true,true,true,true,true,false,false,false,false,false] rfl rfl (any_of HT_.1 (by kernel_rfl)) (fun _ _ _ h=>h) (Or.inl ⟨by rfl,?_⟩) ?_ ?_;rotate_left
      · intro w'
        go_simp;with_reducible rfl
      rotate_left
      · simp only [Act.put,qSa,qSb,qSc,i64_w,i32_w]
        rfl
      refine pure_ (i:=12) (N:=some 15) (v:=?_) (a':=?_) #[true,true,true,true,true,true,true,true,true,true,true,true,true,false,false,false,false] rfl rfl (any_of HT_.1 (by kernel_rfl)) (fun _ _ _ h=>h) (Or.inl ⟨by rfl,?_⟩) ?_ ?_;rotate_left
      · intro w'
        go_simp;with_reducible rfl
      rotate_left
      · simp only [Act.put,qSa,qSb,qSc,i64_w,i32_w]
        rfl
      refine pure_ (i:=13) (N:=some 16) (v:=undef) (a':=?_) #[true,true,true,true,true,true,true,true,true,true,true,true,true,true,false,false,false] rfl rfl (any_of HT_.1 (by kernel_rfl)) (fun _ _ _ h=>h) (Or.inr ⟨by rfl,rfl⟩) ?_ ?_;rotate_left
      · simp only [Act.put,qSa,qSb,qSc,i64_w,i32_w]
        rfl
      refine pure_ (i:=14) (N:=some 17) (v:=undef) (a':=?_) #[true,true,true,true,true,true,true,true,true,true,true,true,true,true,true,false,false] rfl rfl (any_of HT_.1 (by kernel_rfl)) (fun _ _ _ h=>h) (Or.inr ⟨by rfl,rfl⟩) ?_ ?_;rotate_left
      · simp only [Act.put,qSa,qSb,qSc,i64_w,i32_w]
        rfl
      refine pure_ (i:=15) (N:=some 18) (v:=?_) (a':=?_) #[true,true,true,true,true,true,true,true,true,true,true,true,true,true,true,true,false] rfl rfl (any_of HT_.1 (by kernel_rfl)) (fun _ _ _ h=>h) (Or.inl ⟨by rfl,?_⟩) ?_ ?_;rotate_left
      · intro w'
        go_simp;with_reducible rfl
      rotate_left
      · simp only [Act.put,qSa,qSb,qSc,i64_w,i32_w]
        rfl
      refine pure_ (i:=16) (N:=some 2) (v:=?_) (a':=?_) #[true,true,true,true,true,true,true,true,true,true,true,true,true,true,true,true,true] rfl rfl (any_of HT_.1 (by kernel_rfl)) (fun _ _ _ h=>h) (Or.inl ⟨by rfl,?_⟩) ?_ ?_;rotate_left
      · intro w'
        go_simp;with_reducible rfl
      rotate_left
      · simp only [Act.put,qSa,qSb,qSc,i64_w,i32_w]
        rfl
      refine done_ (done_of HT_.1 (by kernel_rfl)) ?_;try go_wp2
      go_ret;exact⟨by first|rfl|(simp [errW_none,errW_some] <;> rfl)|(simp [*,errW_none,errW_some] <;> rfl),by repeat(first|(with_reducible first|exact HB.1|apply below_alloc|apply pw_below_drewN|apply below_drew1|refine below_set ?_ GE107.1)|exact HB.1)⟩
  · replace c3:=Bool.eq_false_iff.mpr c3
    subst c3;have H1:(some false)=some r:=by rw [if_neg (show ¬(false=true) by decide)] at H;exact H
    clear H;have H:=H1;clear H1;obtain rfl:=Option.some.inj H;go_enter Try.func54,Try.ntmps54;try go_wp2_with (first|((with_reducible refine gate_dst (N:=1) rfl ?_);(try(refine gate_guard (by rfl) ?_;dsimp only));refine box_event ?hg (N:=1) ?hd (cs:=#[.int .i64 a0_0,.slice A0_1 l0_1.length c0_1]) (t:=28) ?hr ?_;(case hd=>rfl);(case hg=>rfl);(case hr=>first|(go_simp;done)|(go_simp;rfl));intro gb107 hg w14 hbox hb;have n0_:=qAm (below_step qB15 hb);have n1_:=qAm (hbox);have n2_:=qAm ((by rw [hg];exact(below_size qB15):w.heap.size≤gb107));have n3_:=qAm ((by rw [hg];exact(below_size qB15):w.heap.size≤gb107));clear HB;have HB:=n0_;have BK107:=n1_;have GW107:=n2_;have GE107:=n3_;clear n0_ n1_ n2_ n3_;clear hb hbox hg))
    have n0_:=qAm (blk_drew BK107.1);have n1_:=qAm (below_drew1 HB.1);clear BK107 HB;have BK107:=n0_;have HB:=n1_;clear n0_ n1_;refine start_ (n:=17) (S:=fun w'=>w'.cell? ⟨gb107,0,none⟩=some (.int .i64 a0_0)∧w'.cell? ⟨gb107,1,none⟩=some (.slice A0_1 l0_1.length c0_1)) (ds:=[]) #[false,false,false,false,false,false,false,false,false,false,false,false,false,false,false,false,false] (by kernel_rfl) rfl rfl ⟨(blk_cell BK107.1 0).trans rfl,(blk_cell BK107.1 1).trans rfl⟩ (fun hHeld=>?_);refine with_tabW spec_l01Is.tab1 spec_l01Is.bits1 (fun HT_ HW_=>?_);generalize w14.drew=w15 at BK107 HB hHeld ⊢;refine pure_ (i:=0) (N:=some 3) (v:=?_) (a':=?_) #[true,false,false,false,false,false,false,false,false,false,false,false,false,false,false,false,false] rfl rfl (any_of HT_.1 (by kernel_rfl)) (fun _ _ _ h=>h) (Or.inl ⟨by rfl,?_⟩) ?_ ?_;rotate_left
    · intro w'
      go_simp;with_reducible rfl
    rotate_left
    · simp only [Act.put,qSa,qSb,qSc,i64_w,i32_w]
      rfl
    refine take_ (i:=1) (N:=some 4) (v:=?_) (a':=?_) #[true,true,false,false,false,false,false,false,false,false,false,false,false,false,false,false,false] rfl rfl (take_ofW HT_.1 HW_.1 (by kernel_rfl)) (fun _ _ _ h=>h) (Or.inl ⟨by rfl,?_⟩) hHeld ?_ ?_;rotate_left
    · rintro w' ⟨s0,s1⟩
      go_simp;with_reducible rfl
    rotate_left
    · simp only [Act.put,qSa,qSb,qSc,i64_w,i32_w]
      rfl
    refine one_ (i:=2) (N:=some 5) #[true,true,true,false,false,false,false,false,false,false,false,false,false,false,false,false,false] rfl rfl (one_of HT_.1 (by kernel_rfl)) (by decide) (fun K hK=>?_);refine goes_ Try.func83 (by kernel_rfl) rfl #[.int .i64 a0_0,.int .i64 1,.int .i64 16] (by rfl) rfl rfl qB14 ?_;with_reducible refine(spec_l01In.calls a0_0 1 16 false _ A2.1).mono ?_
    rintro e w' ⟨rfl,⟨nd,rfl⟩⟩;refine⟨_,rfl,?_⟩;refine hK.out _ _ ⟨(blk_cell BK107.1 0).trans rfl,(blk_cell BK107.1 1).trans rfl⟩ (fun hHeld=>?_);clear hK K;refine norm_ (a':=?_) ?_ ?_;rotate_left
    · show Act.put _ (some 5) _=_
      simp only [Act.put,qSa,qSb,qSc,i64_w,i32_w];rfl
    refine pure_ (i:=3) (N:=some 6) (v:=?_) (a':=?_) #[true,true,true,true,false,false,false,false,false,false,false,false,false,false,false,false,false] rfl rfl (any_of HT_.1 (by kernel_rfl)) (fun _ _ _ h=>h) (Or.inl ⟨by rfl,?_⟩) ?_ ?_;rotate_left
    · intro w'
      go_simp;with_reducible rfl
    rotate_left
    · simp only [Act.put,qSa,qSb,qSc,i64_w,i32_w]
      rfl
    refine pure_ (i:=4) (N:=some 7) (v:=undef) (a':=?_) #[true,true,true,true,true,false,false,false,false,false,false,false,false,false,false,false,false] rfl rfl (any_of HT_.1 (by kernel_rfl)) (fun _ _ _ h=>h) (Or.inr ⟨by rfl,rfl⟩) ?_ ?_;rotate_left
    · simp only [Act.put,qSa,qSb,qSc,i64_w,i32_w]
      rfl
    refine pure_ (i:=5) (N:=some 8) (v:=undef) (a':=?_) #[true,true,true,true,true,true,false,false,false,false,false,false,false,false,false,false,false] rfl rfl (any_of HT_.1 (by kernel_rfl)) (fun _ _ _ h=>h) (Or.inr ⟨by rfl,rfl⟩) ?_ ?_;rotate_left
    · simp only [Act.put,qSa,qSb,qSc,i64_w,i32_w]
      rfl
    refine pure_ (i:=6) (N:=some 9) (v:=undef) (a':=?_) #[true,true,true,true,true,true,true,false,false,false,false,false,false,false,false,false,false] rfl rfl (any_of HT_.1 (by kernel_rfl)) (fun _ _ _ h=>h) (Or.inr ⟨by rfl,rfl⟩) ?_ ?_;rotate_left
    · simp only [Act.put,qSa,qSb,qSc,i64_w,i32_w]
      rfl
    refine pure_ (i:=7) (N:=some 10) (v:=undef) (a':=?_) #[true,true,true,true,true,true,true,true,false,false,false,false,false,false,false,false,false] rfl rfl (any_of HT_.1 (by kernel_rfl)) (fun _ _ _ h=>h) (Or.inr ⟨by rfl,rfl⟩) ?_ ?_;rotate_left
    · simp only [Act.put,qSa,qSb,qSc,i64_w,i32_w]
      rfl
    refine pure_ (i:=8) (N:=some 11) (v:=undef) (a':=?_) #[true,true,true,true,true,true,true,true,true,false,false,false,false,false,false,false,false] rfl rfl (any_of HT_.1 (by kernel_rfl)) (fun _ _ _ h=>h) (Or.inr ⟨by rfl,rfl⟩) ?_ ?_;rotate_left
    · simp only [Act.put,qSa,qSb,qSc,i64_w,i32_w]
      rfl
    refine pure_ (i:=9) (N:=some 12) (v:=undef) (a':=?_) #[true,true,true,true,true,true,true,true,true,true,false,false,false,false,false,false,false] rfl rfl (any_of HT_.1 (by kernel_rfl)) (fun _ _ _ h=>h) (Or.inr ⟨by rfl,rfl⟩) ?_ ?_;rotate_left
    · simp only [Act.put,qSa,qSb,qSc,i64_w,i32_w]
      rfl
    refine pure_ (i:=10) (N:=some 13) (v:=undef) (a':=?_) #[true,true,true,true,true,true,true,true,true,true,true,false,false,false,false,false,false] rfl rfl (any_of HT_.1 (by kernel_rfl)) (fun _ _ _ h=>h) (Or.inr ⟨by rfl,rfl⟩) ?_ ?_;rotate_left
    · simp only [Act.put,qSa,qSb,qSc,i64_w,i32_w]
      rfl
    refine pure_ (i:=11) (N:=some 14) (v:=?_) (a':=?_) #[true,true,true,true,true,true,true,true,true,true,true,true,false,false,false,false,false] rfl rfl (any_of HT_.1 (by kernel_rfl)) (fun _ _ _ h=>h) (Or.inl ⟨by rfl,?_⟩) ?_ ?_;rotate_left
    · intro w'
      go_simp;with_reducible rfl
    rotate_left
    · simp only [Act.put,qSa,qSb,qSc,i64_w,i32_w]
      rfl
    refine pure_ (i:=12) (N:=some 15) (v:=?_) (a':=?_) #[true,true,true,true,true,true,true,true,true,true,true,true,true,false,false,false,false] rfl rfl (any_of HT_.1 (by kernel_rfl)) (fun _ _ _ h=>h) (Or.inl ⟨by rfl,?_⟩) ?_ ?_;rotate_left
    · intro w'
      go_simp;with_reducible rfl
    rotate_left
    · simp only [Act.put,qSa,qSb,qSc,i64_w,i32_w]
      rfl
    refine pure_ (i:=13) (N:=some 16) (v:=undef) (a':=?_) #[true,true,true,true,true,true,true,true,true,true,true,true,true,true,false,false,false] rfl rfl (any_of HT_.1 (by kernel_rfl)) (fun _ _ _ h=>h) (Or.inr ⟨by rfl,rfl⟩) ?_ ?_;rotate_left
    · simp only [Act.put,qSa,qSb,qSc,i64_w,i32_w]
      rfl
    refine pure_ (i:=14) (N:=some 17) (v:=undef) (a':=?_) #[true,true,true,true,true,true,true,true,true,true,true,true,true,true,true,false,false] rfl rfl (any_of HT_.1 (by kernel_rfl)) (fun _ _ _ h=>h) (Or.inr ⟨by rfl,rfl⟩) ?_ ?_;rotate_left
    · simp only [Act.put,qSa,qSb,qSc,i64_w,i32_w]
      rfl
    refine pure_ (i:=15) (N:=some 18) (v:=?_) (a':=?_) #[true,true,true,true,true,true,true,true,true,true,true,true,true,true,true,true,false] rfl rfl (any_of HT_.1 (by kernel_rfl)) (fun _ _ _ h=>h) (Or.inl ⟨by rfl,?_⟩) ?_ ?_;rotate_left
    · intro w'
      go_simp;with_reducible rfl
    rotate_left
    · simp only [Act.put,qSa,qSb,qSc,i64_w,i32_w]
      rfl
    refine pure_ (i:=16) (N:=some 2) (v:=?_) (a':=?_) #[true,true,true,true,true,true,true,true,true,true,true,true,true,true,true,true,true] rfl rfl (any_of HT_.1 (by kernel_rfl)) (fun _ _ _ h=>h) (Or.inl ⟨by rfl,?_⟩) ?_ ?_;rotate_left
    · intro w'
      go_simp;with_reducible rfl
    rotate_left
    · simp only [Act.put,qSa,qSb,qSc,i64_w,i32_w]
      rfl
    refine done_ (done_of HT_.1 (by kernel_rfl)) ?_;try go_wp2
    go_ret;exact⟨by first|rfl|(simp [errW_none,errW_some] <;> rfl)|(simp [*,errW_none,errW_some] <;> rfl),by repeat(first|(with_reducible first|exact HB.1|apply below_alloc|apply pw_below_drewN|apply below_drew1|refine below_set ?_ GE107.1)|exact HB.1)⟩

/-! ### spec_l03Prime: function 101 -/
def spec_l03Prime.l0:Nat→Int→Int→Option (Bool)
  |0,_,_=>none
  |k+1,x0,x3=>if (wrap64 (x3*x3))≤x0 then (if x3=0 then (none) else (if (Int.tmod x0 x3)=0 then (some false) else (spec_l03Prime.l0 k x0 (wrap64 (x3+1))))) else (some true)
def spec_l03Prime.f (k:Nat) (a0:Int):Option (Bool):=(spec_l01In.f a0 3 61).bind fun t111=>(if t111=true then (spec_l03Prime.l0 k a0 2) else (some false))
theorem spec_l03Prime.mono_l:∀k,(∀y0 y1,LeO (spec_l03Prime.l0 k y0 y1) (spec_l03Prime.l0 (k+1) y0 y1))
  |0=>fun _ _ r h=>by simp [spec_l03Prime.l0] at h
  |k+1=>by
    have ih0:=spec_l03Prime.mono_l k
    · intro y0 y1
      unfold spec_l03Prime.l0;repeat' first
      |(with_reducible exact ih0 _ _)
      |(with_reducible exact LeO.refl _)
      |(with_reducible exact LeO.none _)
      |(with_reducible refine LeO.ite ?_ ?_)
      |(with_reducible refine LeO.bind ?_ (fun _=>?_))
      |exact ih0 _ _
      |exact LeO.none _
      |refine LeO.ite ?_ ?_
      |refine LeO.bind ?_ (fun _=>?_)
theorem spec_l03Prime.mono:∀a0 k,LeO (spec_l03Prime.f k a0) (spec_l03Prime.f (k+1) a0):=by
  intro a0 k;have ih0:=spec_l03Prime.mono_l k;unfold spec_l03Prime.f;repeat' first
      |(with_reducible exact ih0 _ _)
      |(with_reducible exact LeO.refl _)
      |(with_reducible exact LeO.none _)
      |(with_reducible refine LeO.ite ?_ ?_)
      |(with_reducible refine LeO.bind ?_ (fun _=>?_))
      |exact ih0 _ _
      |exact LeO.none _
      |refine LeO.ite ?_ ?_
      |refine LeO.bind ?_ (fun _=>?_)
set_option maxHeartbeats 8000000 in
set_option maxRecDepth 100000 in
theorem spec_l03Prime.calls (k:Nat) (a0:Int) (r:Bool) (w:World) (h:spec_l03Prime.f k a0=some r):
    Calls Try.prog 101 #[.int .i64 a0] w fun e w'=>e=.returned (.bool r)∧Drawn0 w w':=by
  have H:((spec_l01In.f a0 3 61).bind fun t111=>(if t111=true then (spec_l03Prime.l0 k a0 2) else (some false)))=some r:=h;clear h;replace H:=qOb H;obtain⟨t111,A20,H⟩:=H;replace H:(if t111=true then (spec_l03Prime.l0 k a0 2) else (some false))=some r:=H;have A2:=qAm A20;clear A20
  by_cases c3:t111=true
  · subst c3
    have H1:(spec_l03Prime.l0 k a0 2)=some r:=by rw [if_pos rfl] at H;exact H
    clear H;have H:=H1;clear H1;have H':=qAm H;clear H;go_enter Try.func101,Try.ntmps101;go_wp2_with (first|((with_reducible refine gate_callee (f:=83) rfl ?_);refine goesL_ (some 5) rfl rfl Try.func83 (by kernel_rfl) rfl #[.int .i64 a0,.int .i64 3,.int .i64 61] rfl qB14 ?_;(with_reducible refine(spec_l01In.calls a0 3 61 true _ A2.1).mono ?_);rintro e w' ⟨rfl,⟨nd,rfl⟩⟩;refine⟨_,rfl,?_⟩));try simp only [Act.put,qSa,qSc,qSb]
    go_loopg [3] k (fun kq v3 w'=>∃(x3_1:Int),v3=.int .i64 x3_1∧Aside0 (spec_l03Prime.l0 kq a0 x3_1=some r)∧Aside0 (kq≤k)∧Drawn0 w w')
    case atStart=>exact⟨(2),qB41,H',⟨Nat.le_refl _⟩,by repeat(first|exact Drawn0.refl _|apply Drawn0.step)⟩
    case round=>
      clear H';try clear c1
      try clear p2
      try clear c3
      obtain⟨x3_1,rfl,HA,HK1,⟨m1,rfl⟩⟩:=hrel;cases gk with
      |zero=>exact absurd HA.1 (by simp [spec_l03Prime.l0])
      |succ k1=>
        have H:=HA.1;clear HA;simp only [spec_l03Prime.l0] at H
        by_cases c4:(wrap64 (x3_1*x3_1))≤a0
        · rw [if_pos c4] at H
          have c4b0:decide ((wrap64 (x3_1*x3_1))≤a0)=true:=decide_eq_true c4;clear c4
          by_cases c5:x3_1=0
          · rw [if_pos c5] at H
            exact absurd H (by simp)
          · rw [if_neg c5] at H
            have c5b0:(x3_1==0)=false:=beq_eq_false_iff_ne.mpr c5;have c5b1:(x3_1 !=0)=true:=bne_iff_ne.mpr c5
            by_cases c6:(Int.tmod a0 x3_1)=0
            · rw [if_pos c6] at H
              have c6b0:((Int.tmod a0 x3_1)==0)=true:=beq_iff_eq.mpr c6;have c6b1:((Int.tmod a0 x3_1) !=0)=false:=bne_eq_false_iff_eq.mpr c6;clear c6;obtain rfl:=Option.some.inj H;go_wp2;go_ret;exact⟨by first|rfl|(simp;done)|(simp [*];done),by repeat(first|exact Drawn0.refl _|apply Drawn0.step)⟩
            · rw [if_neg c6] at H
              have c6b0:((Int.tmod a0 x3_1)==0)=false:=beq_eq_false_iff_ne.mpr c6;have c6b1:((Int.tmod a0 x3_1) !=0)=true:=bne_iff_ne.mpr c6;have H':=qAm H;clear H;go_wp2
              (first|go_roundg k1|((try simp only [add_plain] at *);go_roundg k1))
              case measure=>have:=HK1.1;omega
              case rel=>exact⟨(wrap64 (x3_1+1)),qB41,H',⟨by have:=HK1.1;omega⟩,by repeat(first|exact Drawn0.refl _|apply Drawn0.step)⟩
        · rw [if_neg c4] at H
          have c4b0:decide ((wrap64 (x3_1*x3_1))≤a0)=false:=decide_eq_false c4;clear c4;obtain rfl:=Option.some.inj H;go_wp2;go_ret;exact⟨by first|rfl|(simp;done)|(simp [*];done),by repeat(first|exact Drawn0.refl _|apply Drawn0.step)⟩
  · replace c3:=Bool.eq_false_iff.mpr c3
    subst c3;have H1:(some false)=some r:=by rw [if_neg (show ¬(false=true) by decide)] at H;exact H
    clear H;have H:=H1;clear H1;obtain rfl:=Option.some.inj H;go_enter Try.func101,Try.ntmps101;go_wp2_with (first|((with_reducible refine gate_callee (f:=83) rfl ?_);refine goesL_ (some 5) rfl rfl Try.func83 (by kernel_rfl) rfl #[.int .i64 a0,.int .i64 3,.int .i64 61] rfl qB14 ?_;(with_reducible refine(spec_l01In.calls a0 3 61 false _ A2.1).mono ?_);rintro e w' ⟨rfl,⟨nd,rfl⟩⟩;refine⟨_,rfl,?_⟩));go_ret;exact⟨by first|rfl|(simp;done)|(simp [*];done),by repeat(first|exact Drawn0.refl _|apply Drawn0.step)⟩

/-! ### spec_l07Code: function 55 -/
def spec_l07Code.f (k:Nat) (a0:Int) (a1:Int):Option (Int):=(spec_l01In.f a0 1 16).bind fun t112=>(if t112=true then ((spec_l03Prime.f k a1).bind fun t113=>(if t113=true then (some 0) else (some 2))) else (some 2))
theorem spec_l07Code.mono:∀a0 a1 k,LeO (spec_l07Code.f k a0 a1) (spec_l07Code.f (k+1) a0 a1):=by
  intro a0 a1 k;unfold spec_l07Code.f;repeat' first
      |(with_reducible exact spec_l03Prime.mono _ _)
      |(with_reducible exact LeO.refl _)
      |(with_reducible exact LeO.none _)
      |(with_reducible refine LeO.ite ?_ ?_)
      |(with_reducible refine LeO.bind ?_ (fun _=>?_))
      |exact spec_l03Prime.mono _ _
      |exact LeO.none _
      |refine LeO.ite ?_ ?_
      |refine LeO.bind ?_ (fun _=>?_)
set_option maxHeartbeats 8000000 in
set_option maxRecDepth 100000 in
theorem spec_l07Code.calls (k:Nat) (a0:Int) (a1:Int) (r:Int) (w:World) (h:spec_l07Code.f k a0 a1=some r):
    Calls Try.prog 55 #[.int .i64 a0,.int .i64 a1] w fun e w'=>e=.returned (.int .i64 r)∧Drawn0 w w':=by
  have H:((spec_l01In.f a0 1 16).bind fun t112=>(if t112=true then ((spec_l03Prime.f k a1).bind fun t113=>(if t113=true then (some 0) else (some 2))) else (some 2)))=some r:=h;clear h;replace H:=qOb H;obtain⟨t112,A30,H⟩:=H;replace H:(if t112=true then ((spec_l03Prime.f k a1).bind fun t113=>(if t113=true then (some 0) else (some 2))) else (some 2))=some r:=H;have A3:=qAm A30;clear A30
  by_cases c4:t112=true
  · subst c4
    have H1:((spec_l03Prime.f k a1).bind fun t113=>(if t113=true then (some 0) else (some 2)))=some r:=by rw [if_pos rfl] at H;exact H
    clear H;have H:=H1;clear H1;replace H:=qOb H;obtain⟨t113,A50,H⟩:=H;replace H:(if t113=true then (some 0) else (some 2))=some r:=H;have A5:=qAm A50;clear A50
    by_cases c6:t113=true
    · subst c6
      have H1:(some 0)=some r:=by rw [if_pos rfl] at H;exact H
      clear H;have H:=H1;clear H1;obtain rfl:=Option.some.inj H;go_enter Try.func55,Try.ntmps55;go_wp2_with (first|((with_reducible refine gate_callee (f:=83) rfl ?_);refine goesL_ (some 6) rfl rfl Try.func83 (by kernel_rfl) rfl #[.int .i64 a0,.int .i64 1,.int .i64 16] rfl qB14 ?_;(with_reducible refine(spec_l01In.calls a0 1 16 true _ A3.1).mono ?_);rintro e w' ⟨rfl,⟨nd,rfl⟩⟩;refine⟨_,rfl,?_⟩)|(go_at_call 101;(with_reducible refine(spec_l03Prime.calls k a1 true _ A5.1).mono ?_);rintro e w' ⟨rfl,⟨nd,rfl⟩⟩));go_ret;exact⟨by first|rfl|(simp;done)|(simp [*];done),by repeat(first|exact Drawn0.refl _|apply Drawn0.step)⟩
    · replace c6:=Bool.eq_false_iff.mpr c6
      subst c6;have H1:(some 2)=some r:=by rw [if_neg (show ¬(false=true) by decide)] at H;exact H
      clear H;have H:=H1;clear H1;obtain rfl:=Option.some.inj H;go_enter Try.func55,Try.ntmps55;go_wp2_with (first|((with_reducible refine gate_callee (f:=83) rfl ?_);refine goesL_ (some 6) rfl rfl Try.func83 (by kernel_rfl) rfl #[.int .i64 a0,.int .i64 1,.int .i64 16] rfl qB14 ?_;(with_reducible refine(spec_l01In.calls a0 1 16 true _ A3.1).mono ?_);rintro e w' ⟨rfl,⟨nd,rfl⟩⟩;refine⟨_,rfl,?_⟩)|(go_at_call 101;(with_reducible refine(spec_l03Prime.calls k a1 false _ A5.1).mono ?_);rintro e w' ⟨rfl,⟨nd,rfl⟩⟩));go_ret;exact⟨by first|rfl|(simp;done)|(simp [*];done),by repeat(first|exact Drawn0.refl _|apply Drawn0.step)⟩
  · replace c4:=Bool.eq_false_iff.mpr c4
    subst c4;have H1:(some 2)=some r:=by rw [if_neg (show ¬(false=true) by decide)] at H;exact H
    clear H;have H:=H1;clear H1;obtain rfl:=Option.some.inj H;go_enter Try.func55,Try.ntmps55;go_wp2_with (first|((with_reducible refine gate_callee (f:=83) rfl ?_);refine goesL_ (some 6) rfl rfl Try.func83 (by kernel_rfl) rfl #[.int .i64 a0,.int .i64 1,.int .i64 16] rfl qB14 ?_;(with_reducible refine(spec_l01In.calls a0 1 16 false _ A3.1).mono ?_);rintro e w' ⟨rfl,⟨nd,rfl⟩⟩;refine⟨_,rfl,?_⟩));go_ret;exact⟨by first|rfl|(simp;done)|(simp [*];done),by repeat(first|exact Drawn0.refl _|apply Drawn0.step)⟩

/-! ### spec_l07Fully: function 56 -/
def spec_l07Fully.f (a0:Int) (a1:Int):Option (Bool):=if a1=0 then (none) else (if (Int.tmod a0 a1)=0 then (some false) else (if a0=0 then (none) else (some ((Int.tmod (wrap64 (a1 - 1)) a0)==0))))
set_option maxHeartbeats 8000000 in
set_option maxRecDepth 100000 in
theorem spec_l07Fully.calls (a0:Int) (a1:Int) (r:Bool) (w:World) (h:spec_l07Fully.f a0 a1=some r):
    Calls Try.prog 56 #[.int .i64 a0,.int .i64 a1] w fun e w'=>e=.returned (.bool r)∧Drawn0 w w':=by
  have H:(if a1=0 then (none) else (if (Int.tmod a0 a1)=0 then (some false) else (if a0=0 then (none) else (some ((Int.tmod (wrap64 (a1 - 1)) a0)==0)))))=some r:=h;clear h
  by_cases c3:a1=0
  · rw [if_pos c3] at H
    exact absurd H (by simp)
  · rw [if_neg c3] at H
    have c3b0:(a1==0)=false:=beq_eq_false_iff_ne.mpr c3;have c3b1:(a1 !=0)=true:=bne_iff_ne.mpr c3
    by_cases c4:(Int.tmod a0 a1)=0
    · rw [if_pos c4] at H
      have c4b0:((Int.tmod a0 a1)==0)=true:=beq_iff_eq.mpr c4;have c4b1:((Int.tmod a0 a1) !=0)=false:=bne_eq_false_iff_eq.mpr c4;clear c4;obtain rfl:=Option.some.inj H;go_enter Try.func56,Try.ntmps56;go_wp2;go_ret;exact⟨by first|rfl|(simp;done)|(simp [*];done),by repeat(first|exact Drawn0.refl _|apply Drawn0.step)⟩
    · rw [if_neg c4] at H
      have c4b0:((Int.tmod a0 a1)==0)=false:=beq_eq_false_iff_ne.mpr c4;have c4b1:((Int.tmod a0 a1) !=0)=true:=bne_iff_ne.mpr c4
      by_cases c5:a0=0
      · rw [if_pos c5] at H
        exact absurd H (by simp)
      · rw [if_neg c5] at H
        have c5b0:(a0==0)=false:=beq_eq_false_iff_ne.mpr c5;have c5b1:(a0 !=0)=true:=bne_iff_ne.mpr c5;obtain rfl:=Option.some.inj H;go_enter Try.func56,Try.ntmps56;go_wp2;go_ret;exact⟨by first|rfl|(simp;done)|(simp [*];done),by repeat(first|exact Drawn0.refl _|apply Drawn0.step)⟩

/-! ### spec_l07Value: function 58 -/
def spec_l07Value.l0:Nat→List Int→Int→Int→Int→Int→Option (Int)
  |0,_,_,_,_,_=>none
  |k+1,x0,x1,x2,x7,x8=>if x8≥0 then (if 0≤x8 then (if x8<(x0.length:Int) then (if x2=0 then (none) else (spec_l07Value.l0 k x0 x1 x2 (Int.tmod (wrap64 ((wrap64 ((wrap64 (x7*x1))+(Int.tmod (rd x0 x8) x2)))+x2)) x2) (wrap64 (x8 - 1)))) else (none)) else (none)) else (some x7)
def spec_l07Value.f (k:Nat) (l0:List Int) (a1:Int) (a2:Int):Option (Int):=spec_l07Value.l0 k l0 a1 a2 0 (wrap64 ((l0.length:Int) - 1))
theorem spec_l07Value.mono_l:∀k,(∀y0 y1 y2 y3 y4,LeO (spec_l07Value.l0 k y0 y1 y2 y3 y4) (spec_l07Value.l0 (k+1) y0 y1 y2 y3 y4))
  |0=>fun _ _ _ _ _ r h=>by simp [spec_l07Value.l0] at h
  |k+1=>by
    have ih0:=spec_l07Value.mono_l k
    · intro y0 y1 y2 y3 y4
      unfold spec_l07Value.l0;repeat' first
      |(with_reducible exact ih0 _ _ _ _ _)
      |(with_reducible exact LeO.refl _)
      |(with_reducible exact LeO.none _)
      |(with_reducible refine LeO.ite ?_ ?_)
      |(with_reducible refine LeO.bind ?_ (fun _=>?_))
      |exact ih0 _ _ _ _ _
      |exact LeO.none _
      |refine LeO.ite ?_ ?_
      |refine LeO.bind ?_ (fun _=>?_)
theorem spec_l07Value.mono:∀a0 a1 a2 k,LeO (spec_l07Value.f k a0 a1 a2) (spec_l07Value.f (k+1) a0 a1 a2):=by
  intro a0 a1 a2 k;have ih0:=spec_l07Value.mono_l k;unfold spec_l07Value.f;repeat' first
      |(with_reducible exact ih0 _ _ _ _ _)
      |(with_reducible exact LeO.refl _)
      |(with_reducible exact LeO.none _)
      |(with_reducible refine LeO.ite ?_ ?_)
      |(with_reducible refine LeO.bind ?_ (fun _=>?_))
      |exact ih0 _ _ _ _ _
      |exact LeO.none _
      |refine LeO.ite ?_ ?_
      |refine LeO.bind ?_ (fun _=>?_)
set_option maxHeartbeats 8000000 in
set_option maxRecDepth 100000 in
theorem spec_l07Value.calls (k:Nat) (A0:Option Addr) (c0:Nat) (l0:List Int) (a1:Int) (a2:Int) (r:Int) (w:World) (hr0:Kd.C (Kd.int .i64) w A0 l0.length l0) (hc0:l0.length≤c0) (h:spec_l07Value.f k l0 a1 a2=some r):
    Calls Try.prog 58 #[.slice A0 l0.length c0,.int .i64 a1,.int .i64 a2] w fun e w'=>e=.returned (.int .i64 r)∧Drawn0 w w':=by
  have HR0:=qAm hr0;have HC0:=qAm hc0;clear hr0 hc0;have H:(spec_l07Value.l0 k l0 a1 a2 0 (wrap64 ((l0.length:Int) - 1)))=some r:=h;clear h;have H':=qAm H;clear H;go_enter Try.func58,Try.ntmps58;go_wp2;try simp only [Act.put,qSa,qSc,qSb]
  go_loopg [7,8] k (fun kq v7 v8 w'=>∃(x7_1:Int) (x8_1:Int),v7=.int .i64 x7_1∧v8=.int .i64 x8_1∧Aside0 (spec_l07Value.l0 kq l0 a1 a2 x7_1 x8_1=some r)∧Aside0 (kq≤k)∧Drawn0 w w')
  case atStart=>exact⟨(0),(wrap64 ((l0.length:Int) - 1)),qB41,qB41,H',⟨Nat.le_refl _⟩,by repeat(first|exact Drawn0.refl _|apply Drawn0.step)⟩
  case round=>
    clear H';try clear p2
    obtain⟨x7_1,x8_1,rfl,rfl,HA,HK1,⟨m1,rfl⟩⟩:=hrel;cases gk with
    |zero=>exact absurd HA.1 (by simp [spec_l07Value.l0])
    |succ k1=>
      have H:=HA.1;clear HA;simp only [spec_l07Value.l0] at H
      by_cases c4:x8_1≥0
      · rw [if_pos c4] at H
        have c4b0:decide (0≤x8_1)=true:=decide_eq_true c4;clear c4
        by_cases c5:0≤x8_1
        · rw [if_pos c5] at H
          have c5b0:decide (0≤x8_1)=true:=decide_eq_true c5;clear c5
          by_cases c6:x8_1<(l0.length:Int)
          · rw [if_pos c6] at H
            have c6b0:decide (x8_1<(l0.length:Int))=true:=decide_eq_true c6;clear c6
            by_cases c7:a2=0
            · rw [if_pos c7] at H
              exact absurd H (by simp)
            · rw [if_neg c7] at H
              have c7b0:(a2==0)=false:=beq_eq_false_iff_ne.mpr c7;have c7b1:(a2 !=0)=true:=bne_iff_ne.mpr c7;have H':=qAm H;clear H;have p114:0≤(x8_1:Int):=of_decide_eq_true qB40;have q114:x8_1<(l0.length:Int):=of_decide_eq_true qB40;obtain⟨ad114,e114,hx114_0⟩:=Kd.at_int HR0.1 x8_1 p114 q114;cases e114
              replace p114:=eq_true p114;replace q114:=eq_true q114;go_wp2
              (first|go_roundg k1|((try simp only [add_plain] at *);go_roundg k1))
              case measure=>have:=HK1.1;omega
              case rel=>exact⟨(Int.tmod (wrap64 ((wrap64 ((wrap64 (x7_1*a1))+(Int.tmod (rd l0 x8_1) a2)))+a2)) a2),(wrap64 (x8_1 - 1)),qB41,qB41,H',⟨by have:=HK1.1;omega⟩,by repeat(first|exact Drawn0.refl _|apply Drawn0.step)⟩
          · rw [if_neg c6] at H
            exact absurd H (by simp)
        · rw [if_neg c5] at H
          exact absurd H (by simp)
      · rw [if_neg c4] at H
        have c4b0:decide (0≤x8_1)=false:=decide_eq_false c4;clear c4;obtain rfl:=Option.some.inj H;go_wp2;go_ret;exact⟨by first|rfl|(simp;done)|(simp [*];done),by repeat(first|exact Drawn0.refl _|apply Drawn0.step)⟩

/-! ### spec_l01Own: function 119 -/
def spec_l01Own.f (l0:List Int):Option (List Int):=(some (([]:List Int):List Int)).bind fun y115=>(if y115.length+l0.length<17592186044416 then (some (y115 ++ l0)) else (none))
set_option maxHeartbeats 8000000 in
set_option maxRecDepth 100000 in
theorem spec_l01Own.calls (A0:Option Addr) (c0:Nat) (l0:List Int) (r:List Int) (w:World) (hr0:Kd.C (Kd.int .i64) w A0 l0.length l0) (hc0:l0.length≤c0) (h:spec_l01Own.f l0=some r):
    Calls Try.prog 119 #[.slice A0 l0.length c0] w fun e w'=>∃v0_:Value,e=.returned (v0_)∧Kd.R (Kd.int .i64) 2 w' w.heap.size (fun _=>True) v0_ r∧Below w.heap.size w w':=by
  have HR0:=qAm hr0;have HC0:=qAm hc0;clear hr0 hc0;have HB:=qAm (Below.refl w.heap.size w);have H:((some (([]:List Int):List Int)).bind fun y115=>(if y115.length+l0.length<17592186044416 then (some (y115 ++ l0)) else (none)))=some r:=h;clear h;obtain⟨y115,hy115⟩:∃y_:List Int,y_=(([]:List Int)):=⟨_,rfl⟩
  replace H:(if y115.length+l0.length<17592186044416 then (some (y115 ++ l0)) else (none))=some r:=by first|(rw [hy115];with_reducible exact H)|(have H2_:=(Option.bind_some _ _).symm.trans H;rw [hy115];with_reducible exact H2_)|(have H2_:=(Option.bind_some _ _).symm.trans H;with_reducible exact H2_)|with_reducible exact H|(rw [hy115];exact H)|exact H
  have Ny115:=qAm hy115;clear hy115
  by_cases c2:y115.length+l0.length<17592186044416
  · rw [if_pos c2] at H
    have LMc2:=qAm c2;clear c2;obtain⟨y118,hy118⟩:∃y_:List Int,y_=(y115 ++ l0):=⟨_,rfl⟩
    replace H:(some y118)=some r:=by first|(rw [hy118];with_reducible exact H)|(have H2_:=(Option.bind_some _ _).symm.trans H;rw [hy118];with_reducible exact H2_)|(have H2_:=(Option.bind_some _ _).symm.trans H;with_reducible exact H2_)|with_reducible exact H|(rw [hy118];exact H)|exact H
    have Ny118:=qAm hy118;clear hy118;obtain rfl:=Option.some.inj H;go_enter Try.func119,Try.ntmps119;go_wp2_with (first|((with_reducible refine gate_dst (N:=3) rfl ?_);refine Kd.R_lit (Kd.int .i64) _ 2 ?hg (N:=3) ?hd (xs:=([]:List Int)) (inner:=[]) (ok:=fun _=>True) (okp:=fun _=>True) ?hr ?hp (fun _ hk=>hk) trivial (Below.refl _ _) (Nat.le_refl _) (by simp) ?_;(case hd=>rfl);(case hg=>rfl);(case hr=>first|(go_simp;done)|(go_simp;rfl));(case hp=>exact(Reps.none _ _));intro v116 w3 ho4 hb hg_ hnew_;clear hg_ hnew_;(first|rw [← Ny115.1] at ho4|(simp only [Int.reduceToNat] at ho4;rw [← Ny115.1] at ho4));have n0_:=qAm (Kd.R_lower ho4 (below_size qB15));have n1_:=qAm (below_step qB15 hb);clear HB;have HO117:=n0_;have HB:=n1_;clear n0_ n1_;clear hb ho4)|((with_reducible refine gate_builtin (b:=.append) (xs:=#[.tmp 3,.tmp 4]) rfl ?_);at_builtin;refine Kd.R_append_rows (Kd.int .i64) (w0:=w) w.heap.size rfl (.tmp 3) (.tmp 4) 22 2 (.int .i64 0) 8 rfl Try.underlying22 info2 rfl (by decide) (by omega) v116 y115 l0 _ _ _ (fun _=>True) (fun _=>False) rfl rfl ?aO ?aR (fun _ _ h=>h) (fun _ h=>h.elim) ?aF ?aB ?aS ?aL ?_;(case aR=>repeat(first|exact(Kd.C_below HR0.1 HB.1)|(with_reducible refine Kd.C_alloc ?_ _)|(with_reducible refine Kd.C_drewN ?_ _)|(with_reducible refine Kd.C_drew ?_)));(case aB=>exact qB15);(case aF=>exact(fun _ _=>trivial));(case aO=>exact(by (with_reducible repeat(first|apply Kd.R_alloc|apply Kd.R_drewN|apply Kd.R_drew));exact HO117.1));(case aS=>exact(below_size qB15));(case aL=>have:=LMc2.1;omega);intro v119 w5 ho hb hg hat;rw [← Ny118.1] at ho;have n0_:=qAm (hb);have n1_:=qAm (ho);clear HB;clear HO117;have HB:=n0_;have HO120:=n1_;clear n0_ n1_;clear ho hb hg hat));go_ret;exact⟨_,by first|rfl|(simp [errW_none,errW_some] <;> rfl)|(simp [*,errW_none,errW_some] <;> rfl),by (with_reducible repeat(first|apply Kd.R_alloc|apply Kd.R_drewN|apply Kd.R_drew));exact HO120.1,by repeat(first|(with_reducible first|exact HB.1|apply below_alloc|apply pw_below_drewN|apply below_drew1)|exact HB.1)⟩
  · rw [if_neg c2] at H
    exact absurd H (by simp)

end Go.Proofs.Ytefhabkikaadiaa.PFnExactPlacesWith
