/- The functions that the law reaches, as plain functions, each with the proof that the program comes to it; no condition. Written by a program of this session (wip/mp.py) over the printing of the kit; what is marked HAND is told by hand. -/
import Derived.Test.YtejpliodhnglbaaPFnExactCubicSymbolx0
import Derived.Test.YtejpliodhnglbaaPFnExactCubicSymbolx9
namespace Go.Proofs.Ytejpliodhnglbaa.PFnExactCubicSymbol
open Go.RowKit Go.Proofs.YtejpliodhnglbaaW.PrintWords Go.Proofs.YtejpliodhnglbaaW.PrintLast Go.Proofs.YtejpliodhnglbaaW.PrintMore
attribute [local go_sem] max2_int min2_int max_two min_two max_three min_three max_four min_four   -- for this text's walks alone
set_option linter.unusedVariables false
set_option linter.unusedSimpArgs false

/-! ### impl_IsCyclo: function 66 -/
def impl_IsCyclo.f (k:Nat) (a0_0:Int) (l0_1:List Int):Option (Bool):=(impl_isOrder.f a0_0).bind fun t355=>(if t355=true then ((impl_totient.f k a0_0).bind fun t356=>(if (l0_1.length:Int)=t356 then ((impl_areSmall.f l0_1 1000000000).bind fun t357=>(some t357)) else (some false))) else (some false))
theorem impl_IsCyclo.mono:∀a0 a1 k,LeO (impl_IsCyclo.f k a0 a1) (impl_IsCyclo.f (k+1) a0 a1):=by
 intro a0 a1 k;unfold impl_IsCyclo.f;repeat' first
   |(with_reducible exact impl_totient.mono _ _)
   |(with_reducible exact LeO.refl _)
   |(with_reducible exact LeO.none _)
   |(with_reducible refine LeO.ite ?_ ?_)
   |(with_reducible refine LeO.bind ?_ (fun _=>?_))
   |exact impl_totient.mono _ _
   |exact LeO.none _
   |refine LeO.ite ?_ ?_
   |refine LeO.bind ?_ (fun _=>?_)
def impl_IsCyclo.T1:Bool×List (List Nat×List Nat):=(true,[([],[]),([0],[0]),([1],[1]),([2,2],[2]),([3],[3]),([4,3],[3,4]),([5,3],[3,5]),([3],[3]),([7,3],[3,7]),([8,3,3],[3,8]),([6,9,3],[3,6,9]),([3,10],[3,10]),([11,9],[11]),([12],[12]),([13,12],[12,13]),([14,12,12],[12,14]),([12,15],[12,15]),([16,15,0,1,2,3,4,5,6,7,8,9,10,11,12,13,14,15,16],[16])])
def impl_IsCyclo.B1:List Nat:=[0,1,3,7,15,31,63,15,143,399,1023,2047,4095,8191,16383,32767,65535,131071]
theorem impl_IsCyclo.tab1:rtab .any (opsOf Try.f66 1)=impl_IsCyclo.T1:=by kernel_rfl
theorem impl_IsCyclo.bits1:waitsOk impl_IsCyclo.T1.2 impl_IsCyclo.B1=true:=by kernel_rfl
set_option maxHeartbeats 8000000 in
set_option maxRecDepth 100000 in
theorem impl_IsCyclo.calls (k:Nat) (a0_0:Int) (A0_1:Option Addr) (c0_1:Nat) (l0_1:List Int) (r:Bool) (w:World) (hr0_1:Kd.C (Kd.int .i64) w A0_1 l0_1.length l0_1) (hc0_1:l0_1.length≤c0_1) (h:impl_IsCyclo.f k a0_0 l0_1=some r):
  Calls Try.prog 66 #[.agg #[.int .i64 a0_0,.slice A0_1 l0_1.length c0_1]] w fun e w'=>e=.returned (.bool r)∧Below w.heap.size w w':=by
 have hu26:=Try.underlying26;have HR0_1:=qAm hr0_1;have HC0_1:=qAm hc0_1;clear hr0_1 hc0_1;have HB:=qAm (Below.refl w.heap.size w);have H:((impl_isOrder.f a0_0).bind fun t355=>(if t355=true then ((impl_totient.f k a0_0).bind fun t356=>(if (l0_1.length:Int)=t356 then ((impl_areSmall.f l0_1 1000000000).bind fun t357=>(some t357)) else (some false))) else (some false)))=some r:=h;clear h;replace H:=qOb H;obtain⟨t355,A20,H⟩:=H;replace H:(if t355=true then ((impl_totient.f k a0_0).bind fun t356=>(if (l0_1.length:Int)=t356 then ((impl_areSmall.f l0_1 1000000000).bind fun t357=>(some t357)) else (some false))) else (some false))=some r:=H;have A2:=qAm A20;clear A20
 by_cases c3:t355=true
 ·subst c3;have H1:((impl_totient.f k a0_0).bind fun t356=>(if (l0_1.length:Int)=t356 then ((impl_areSmall.f l0_1 1000000000).bind fun t357=>(some t357)) else (some false)))=some r:=by rw [if_pos rfl] at H;exact H
  clear H;have H:=H1;clear H1;replace H:=qOb H;obtain⟨t356,A40,H⟩:=H;replace H:(if (l0_1.length:Int)=t356 then ((impl_areSmall.f l0_1 1000000000).bind fun t357=>(some t357)) else (some false))=some r:=H;have A4:=qAm A40;clear A40
  by_cases c5:(l0_1.length:Int)=t356
  ·rw [if_pos c5] at H;have c5b0:((l0_1.length:Int)==t356)=true:=beq_iff_eq.mpr c5;have c5b1:((l0_1.length:Int) !=t356)=false:=bne_eq_false_iff_eq.mpr c5;clear c5;replace H:=qOb H;obtain⟨t357,A60,H⟩:=H;replace H:(some t357)=some r:=H;have A6:=qAm A60;clear A60;obtain rfl:=Option.some.inj H;go_enter Try.func66,Try.ntmps66;try go_wp2_with (first|((with_reducible refine gate_dst (N:=1) rfl ?_);(try(refine gate_guard (by rfl) ?_;dsimp only));refine box_event qL (N:=1) qL (cs:=#[.int .i64 a0_0,.slice A0_1 l0_1.length c0_1]) (t:=26) qR ?_;intro gb354 hg w7 hbox hb;have n0_:=qAm (below_step qB111 hb);have n1_:=qAm (hbox);have n2_:=qAm ((by rw [hg];exact(below_size qB111):w.heap.size≤gb354));have n3_:=qAm ((by rw [hg];exact(below_size qB111):w.heap.size≤gb354));clear HB;have HB:=n0_;have BK354:=n1_;have GW354:=n2_;have GE354:=n3_;clear n0_ n1_ n2_ n3_;clear hb hbox hg))
   have n0_:=qAm (blk_drew BK354.1);have n1_:=qAm (below_drew1 HB.1);clear BK354 HB;have BK354:=n0_;have HB:=n1_;clear n0_ n1_;refine start_ (n:=18) (S:=fun w'=>w'.cell? ⟨gb354,0,none⟩=some (.int .i64 a0_0)∧w'.cell? ⟨gb354,1,none⟩=some (.slice A0_1 l0_1.length c0_1)) (ds:=[]) #[false,false,false,false,false,false,false,false,false,false,false,false,false,false,false,false,false,false] (by kernel_rfl) rfl rfl ⟨(blk_cell BK354.1 0).trans rfl,(blk_cell BK354.1 1).trans rfl⟩ (fun hHeld=>?_);refine with_tabW impl_IsCyclo.tab1 impl_IsCyclo.bits1 (fun HT_ HW_=>?_);generalize w7.drew=w8 at BK354 HB hHeld ⊢;refine pure_ (i:=0) (N:=some 3) (v:=?_) (a':=?_) #[true,false,false,false,false,false,false,false,false,false,false,false,false,false,false,false,false,false] rfl rfl (any_of HT_.1 (by kernel_rfl)) (fun _ _ _ h=>h) (Or.inl ⟨by rfl,?_⟩) ?_ ?_;rotate_left
   ·intro w';go_simp;with_reducible rfl
   rotate_left
   ·exact qU
   refine take_ (i:=1) (N:=some 4) (v:=?_) (a':=?_) #[true,true,false,false,false,false,false,false,false,false,false,false,false,false,false,false,false,false] rfl rfl (take_ofW HT_.1 HW_.1 (by kernel_rfl)) (fun _ _ _ h=>h) (Or.inl ⟨by rfl,?_⟩) hHeld ?_ ?_;rotate_left
   ·rintro w' ⟨s0,s1⟩;go_simp;with_reducible rfl
   rotate_left
   ·exact qU
   refine one_ (i:=2) (N:=some 5) #[true,true,true,false,false,false,false,false,false,false,false,false,false,false,false,false,false,false] rfl rfl (one_of HT_.1 (by kernel_rfl)) (by decide) (fun K hK=>?_);refine goes_ Try.func73 (by kernel_rfl) rfl #[.int .i64 a0_0] (by rfl) rfl rfl qB108 ?_;with_reducible refine(impl_isOrder.calls a0_0 true _ A2.1).mono ?_
   rintro e w' ⟨rfl,⟨nd,rfl⟩⟩;refine⟨_,rfl,?_⟩;refine hK.out _ _ ⟨(blk_cell BK354.1 0).trans rfl,(blk_cell BK354.1 1).trans rfl⟩ (fun hHeld=>?_);clear hK K;refine norm_ (a':=?_) ?_ ?_;rotate_left
   ·show Act.put _ (some 5) _=_
    exact qU
   refine pure_ (i:=3) (N:=some 6) (v:=?_) (a':=?_) #[true,true,true,true,false,false,false,false,false,false,false,false,false,false,false,false,false,false] rfl rfl (any_of HT_.1 (by kernel_rfl)) (fun _ _ _ h=>h) (Or.inl ⟨by rfl,?_⟩) ?_ ?_;rotate_left
   ·intro w';go_simp;with_reducible rfl
   rotate_left
   ·exact qU
   refine pure_ (i:=4) (N:=some 7) (v:=?_) (a':=?_) #[true,true,true,true,true,false,false,false,false,false,false,false,false,false,false,false,false,false] rfl rfl (any_of HT_.1 (by kernel_rfl)) (fun _ _ _ h=>h) (Or.inl ⟨by rfl,?_⟩) ?_ ?_;rotate_left
   ·intro w';go_simp;with_reducible rfl
   rotate_left
   ·exact qU
   refine pure_ (i:=7) (N:=some 10) (v:=?_) (a':=?_) #[true,true,true,true,true,false,false,true,false,false,false,false,false,false,false,false,false,false] rfl rfl (any_of HT_.1 (by kernel_rfl)) (fun _ _ _ h=>h) (Or.inl ⟨by rfl,?_⟩) ?_ ?_;rotate_left
   ·intro w';go_simp;with_reducible rfl
   rotate_left
   ·exact qU
   refine take_ (i:=5) (N:=some 8) (v:=?_) (a':=?_) #[true,true,true,true,true,true,false,true,false,false,false,false,false,false,false,false,false,false] rfl rfl (take_ofW HT_.1 HW_.1 (by kernel_rfl)) (fun _ _ _ h=>h) (Or.inl ⟨by rfl,?_⟩) hHeld ?_ ?_;rotate_left
   ·rintro w' ⟨s0,s1⟩;go_simp;with_reducible rfl
   rotate_left
   ·exact qU
   refine pure_ (i:=6) (N:=some 9) (v:=?_) (a':=?_) #[true,true,true,true,true,true,true,true,false,false,false,false,false,false,false,false,false,false] rfl rfl (any_of HT_.1 (by kernel_rfl)) (fun _ _ _ h=>h) (Or.inl ⟨by rfl,?_⟩) ?_ ?_;rotate_left
   ·intro w';go_simp;with_reducible rfl
   rotate_left
   ·exact qU
   refine take_ (i:=8) (N:=some 11) (v:=?_) (a':=?_) #[true,true,true,true,true,true,true,true,true,false,false,false,false,false,false,false,false,false] rfl rfl (take_ofW HT_.1 HW_.1 (by kernel_rfl)) (fun _ _ _ h=>h) (Or.inl ⟨by rfl,?_⟩) hHeld ?_ ?_;rotate_left
   ·rintro w' ⟨s0,s1⟩;go_simp;with_reducible rfl
   rotate_left
   ·exact qU
   refine one_ (i:=9) (N:=some 12) #[true,true,true,true,true,true,true,true,true,true,false,false,false,false,false,false,false,false] rfl rfl (one_of HT_.1 (by kernel_rfl)) (by decide) (fun K hK=>?_);refine goes_ Try.func74 (by kernel_rfl) rfl #[.int .i64 a0_0] (by rfl) rfl rfl qB108 ?_;with_reducible refine(impl_totient.calls k a0_0 t356 _ A4.1).mono ?_
   rintro e w9 ⟨rfl,hb⟩;refine⟨_,rfl,?_⟩;have n0_:=qAm (blk_below (g:=gb354) (o:=.cells #[.int .i64 a0_0,.slice A0_1 l0_1.length c0_1] 26 (0,0)) qB141 hb);have n1_:=qAm (below_step qB94 hb);clear BK354 HB;have BK354:=n0_;have HB:=n1_;clear n0_ n1_
   (try clear hb)
   (try clear hb2)
   (try clear hk)
   (try clear hi)
   refine hK.out _ _ ⟨(blk_cell BK354.1 0).trans rfl,(blk_cell BK354.1 1).trans rfl⟩ (fun hHeld=>?_);clear hK K;refine norm_ (a':=?_) ?_ ?_;rotate_left
   ·show Act.put _ (some 12) _=_
    exact qU
   refine pure_ (i:=10) (N:=some 13) (v:=?_) (a':=?_) #[true,true,true,true,true,true,true,true,true,true,true,false,false,false,false,false,false,false] rfl rfl (any_of HT_.1 (by kernel_rfl)) (fun _ _ _ h=>h) (Or.inl ⟨by rfl,?_⟩) ?_ ?_;rotate_left
   ·intro w';go_simp;with_reducible rfl
   rotate_left
   ·exact qU
   refine pure_ (i:=11) (N:=some 14) (v:=?_) (a':=?_) #[true,true,true,true,true,true,true,true,true,true,true,true,false,false,false,false,false,false] rfl rfl (any_of HT_.1 (by kernel_rfl)) (fun _ _ _ h=>h) (Or.inl ⟨by rfl,?_⟩) ?_ ?_;rotate_left
   ·intro w';go_simp;with_reducible rfl
   rotate_left
   ·exact qU
   refine pure_ (i:=12) (N:=some 15) (v:=?_) (a':=?_) #[true,true,true,true,true,true,true,true,true,true,true,true,true,false,false,false,false,false] rfl rfl (any_of HT_.1 (by kernel_rfl)) (fun _ _ _ h=>h) (Or.inl ⟨by rfl,?_⟩) ?_ ?_;rotate_left
   ·intro w';go_simp;with_reducible rfl
   rotate_left
   ·exact qU
   refine pure_ (i:=13) (N:=some 16) (v:=?_) (a':=?_) #[true,true,true,true,true,true,true,true,true,true,true,true,true,true,false,false,false,false] rfl rfl (any_of HT_.1 (by kernel_rfl)) (fun _ _ _ h=>h) (Or.inl ⟨by rfl,?_⟩) ?_ ?_;rotate_left
   ·intro w';go_simp;with_reducible rfl
   rotate_left
   ·exact qU
   refine take_ (i:=14) (N:=some 17) (v:=?_) (a':=?_) #[true,true,true,true,true,true,true,true,true,true,true,true,true,true,true,false,false,false] rfl rfl (take_ofW HT_.1 HW_.1 (by kernel_rfl)) (fun _ _ _ h=>h) (Or.inl ⟨by rfl,?_⟩) hHeld ?_ ?_;rotate_left
   ·rintro w' ⟨s0,s1⟩;go_simp;with_reducible rfl
   rotate_left
   ·exact qU
   refine one_ (i:=15) (N:=some 18) #[true,true,true,true,true,true,true,true,true,true,true,true,true,true,true,true,false,false] rfl rfl (one_of HT_.1 (by kernel_rfl)) (by decide) (fun K hK=>?_);refine goes_ Try.func58 (by kernel_rfl) rfl #[.slice A0_1 l0_1.length c0_1,.int .i64 1000000000] (by rfl) rfl rfl qB108 ?_;with_reducible refine(impl_areSmall.calls _ _ l0_1 1000000000 t357 _ ?side1 ?side2 A6.1).mono ?_
   (case side1=>repeat(first|exact(Kd.C_below HR0_1.1 HB.1)|(with_reducible refine Kd.C_alloc ?_ _)|(with_reducible refine Kd.C_drewN ?_ _)|(with_reducible refine Kd.C_drew ?_)))
   (case side2=>exact HC0_1.1)
   rintro e w10 ⟨rfl,hb⟩;refine⟨_,rfl,?_⟩;have n0_:=qAm (blk_below (g:=gb354) (o:=.cells #[.int .i64 a0_0,.slice A0_1 l0_1.length c0_1] 26 (0,0)) qB141 hb);have n1_:=qAm (below_step qB94 hb);clear BK354 HB;have BK354:=n0_;have HB:=n1_;clear n0_ n1_
   (try clear hb)
   (try clear hb2)
   (try clear hk)
   (try clear hi)
   refine hK.out _ _ ⟨(blk_cell BK354.1 0).trans rfl,(blk_cell BK354.1 1).trans rfl⟩ (fun hHeld=>?_);clear hK K;refine norm_ (a':=?_) ?_ ?_;rotate_left
   ·show Act.put _ (some 18) _=_
    exact qU
   refine pure_ (i:=16) (N:=some 19) (v:=?_) (a':=?_) #[true,true,true,true,true,true,true,true,true,true,true,true,true,true,true,true,true,false] rfl rfl (any_of HT_.1 (by kernel_rfl)) (fun _ _ _ h=>h) (Or.inl ⟨by rfl,?_⟩) ?_ ?_;rotate_left
   ·intro w';go_simp;with_reducible rfl
   rotate_left
   ·exact qU
   refine pure_ (i:=17) (N:=some 2) (v:=?_) (a':=?_) #[true,true,true,true,true,true,true,true,true,true,true,true,true,true,true,true,true,true] rfl rfl (any_of HT_.1 (by kernel_rfl)) (fun _ _ _ h=>h) (Or.inl ⟨by rfl,?_⟩) ?_ ?_;rotate_left
   ·intro w';go_simp;with_reducible rfl
   rotate_left
   ·exact qU
   refine done_ (done_of HT_.1 (by kernel_rfl)) ?_;try go_wp2
   go_ret;exact⟨by first|rfl|(simp [errW_none,errW_some] <;> rfl)|(simp [*,errW_none,errW_some] <;> rfl),by repeat(first|(with_reducible first|exact HB.1|apply below_alloc|apply pw_below_drewN|apply below_drew1|refine below_set ?_ GE354.1)|exact HB.1)⟩
  ·rw [if_neg c5] at H;have c5b0:((l0_1.length:Int)==t356)=false:=beq_eq_false_iff_ne.mpr c5;have c5b1:((l0_1.length:Int) !=t356)=true:=bne_iff_ne.mpr c5;obtain rfl:=Option.some.inj H;go_enter Try.func66,Try.ntmps66;try go_wp2_with (first|((with_reducible refine gate_dst (N:=1) rfl ?_);(try(refine gate_guard (by rfl) ?_;dsimp only));refine box_event qL (N:=1) qL (cs:=#[.int .i64 a0_0,.slice A0_1 l0_1.length c0_1]) (t:=26) qR ?_;intro gb354 hg w11 hbox hb;have n0_:=qAm (below_step qB111 hb);have n1_:=qAm (hbox);have n2_:=qAm ((by rw [hg];exact(below_size qB111):w.heap.size≤gb354));have n3_:=qAm ((by rw [hg];exact(below_size qB111):w.heap.size≤gb354));clear HB;have HB:=n0_;have BK354:=n1_;have GW354:=n2_;have GE354:=n3_;clear n0_ n1_ n2_ n3_;clear hb hbox hg))
   have n0_:=qAm (blk_drew BK354.1);have n1_:=qAm (below_drew1 HB.1);clear BK354 HB;have BK354:=n0_;have HB:=n1_;clear n0_ n1_;refine start_ (n:=18) (S:=fun w'=>w'.cell? ⟨gb354,0,none⟩=some (.int .i64 a0_0)∧w'.cell? ⟨gb354,1,none⟩=some (.slice A0_1 l0_1.length c0_1)) (ds:=[]) #[false,false,false,false,false,false,false,false,false,false,false,false,false,false,false,false,false,false] (by kernel_rfl) rfl rfl ⟨(blk_cell BK354.1 0).trans rfl,(blk_cell BK354.1 1).trans rfl⟩ (fun hHeld=>?_);refine with_tabW impl_IsCyclo.tab1 impl_IsCyclo.bits1 (fun HT_ HW_=>?_);generalize w11.drew=w12 at BK354 HB hHeld ⊢;refine pure_ (i:=0) (N:=some 3) (v:=?_) (a':=?_) #[true,false,false,false,false,false,false,false,false,false,false,false,false,false,false,false,false,false] rfl rfl (any_of HT_.1 (by kernel_rfl)) (fun _ _ _ h=>h) (Or.inl ⟨by rfl,?_⟩) ?_ ?_;rotate_left
   ·intro w';go_simp;with_reducible rfl
   rotate_left
   ·exact qU
   refine take_ (i:=1) (N:=some 4) (v:=?_) (a':=?_) #[true,true,false,false,false,false,false,false,false,false,false,false,false,false,false,false,false,false] rfl rfl (take_ofW HT_.1 HW_.1 (by kernel_rfl)) (fun _ _ _ h=>h) (Or.inl ⟨by rfl,?_⟩) hHeld ?_ ?_;rotate_left
   ·rintro w' ⟨s0,s1⟩;go_simp;with_reducible rfl
   rotate_left
   ·exact qU
   refine one_ (i:=2) (N:=some 5) #[true,true,true,false,false,false,false,false,false,false,false,false,false,false,false,false,false,false] rfl rfl (one_of HT_.1 (by kernel_rfl)) (by decide) (fun K hK=>?_);refine goes_ Try.func73 (by kernel_rfl) rfl #[.int .i64 a0_0] (by rfl) rfl rfl qB108 ?_;with_reducible refine(impl_isOrder.calls a0_0 true _ A2.1).mono ?_
   rintro e w' ⟨rfl,⟨nd,rfl⟩⟩;refine⟨_,rfl,?_⟩;refine hK.out _ _ ⟨(blk_cell BK354.1 0).trans rfl,(blk_cell BK354.1 1).trans rfl⟩ (fun hHeld=>?_);clear hK K;refine norm_ (a':=?_) ?_ ?_;rotate_left
   ·show Act.put _ (some 5) _=_
    exact qU
   refine pure_ (i:=3) (N:=some 6) (v:=?_) (a':=?_) #[true,true,true,true,false,false,false,false,false,false,false,false,false,false,false,false,false,false] rfl rfl (any_of HT_.1 (by kernel_rfl)) (fun _ _ _ h=>h) (Or.inl ⟨by rfl,?_⟩) ?_ ?_;rotate_left
   ·intro w';go_simp;with_reducible rfl
   rotate_left
   ·exact qU
   refine pure_ (i:=4) (N:=some 7) (v:=?_) (a':=?_) #[true,true,true,true,true,false,false,false,false,false,false,false,false,false,false,false,false,false] rfl rfl (any_of HT_.1 (by kernel_rfl)) (fun _ _ _ h=>h) (Or.inl ⟨by rfl,?_⟩) ?_ ?_;rotate_left
   ·intro w';go_simp;with_reducible rfl
   rotate_left
   ·exact qU
   refine pure_ (i:=7) (N:=some 10) (v:=?_) (a':=?_) #[true,true,true,true,true,false,false,true,false,false,false,false,false,false,false,false,false,false] rfl rfl (any_of HT_.1 (by kernel_rfl)) (fun _ _ _ h=>h) (Or.inl ⟨by rfl,?_⟩) ?_ ?_;rotate_left
   ·intro w';go_simp;with_reducible rfl
   rotate_left
   ·exact qU
   refine take_ (i:=5) (N:=some 8) (v:=?_) (a':=?_) #[true,true,true,true,true,true,false,true,false,false,false,false,false,false,false,false,false,false] rfl rfl (take_ofW HT_.1 HW_.1 (by kernel_rfl)) (fun _ _ _ h=>h) (Or.inl ⟨by rfl,?_⟩) hHeld ?_ ?_;rotate_left
   ·rintro w' ⟨s0,s1⟩;go_simp;with_reducible rfl
   rotate_left
   ·exact qU
   refine pure_ (i:=6) (N:=some 9) (v:=?_) (a':=?_) #[true,true,true,true,true,true,true,true,false,false,false,false,false,false,false,false,false,false] rfl rfl (any_of HT_.1 (by kernel_rfl)) (fun _ _ _ h=>h) (Or.inl ⟨by rfl,?_⟩) ?_ ?_;rotate_left
   ·intro w';go_simp;with_reducible rfl
   rotate_left
   ·exact qU
   refine take_ (i:=8) (N:=some 11) (v:=?_) (a':=?_) #[true,true,true,true,true,true,true,true,true,false,false,false,false,false,false,false,false,false] rfl rfl (take_ofW HT_.1 HW_.1 (by kernel_rfl)) (fun _ _ _ h=>h) (Or.inl ⟨by rfl,?_⟩) hHeld ?_ ?_;rotate_left
   ·rintro w' ⟨s0,s1⟩;go_simp;with_reducible rfl
   rotate_left
   ·exact qU
   refine one_ (i:=9) (N:=some 12) #[true,true,true,true,true,true,true,true,true,true,false,false,false,false,false,false,false,false] rfl rfl (one_of HT_.1 (by kernel_rfl)) (by decide) (fun K hK=>?_);refine goes_ Try.func74 (by kernel_rfl) rfl #[.int .i64 a0_0] (by rfl) rfl rfl qB108 ?_;with_reducible refine(impl_totient.calls k a0_0 t356 _ A4.1).mono ?_
   rintro e w13 ⟨rfl,hb⟩;refine⟨_,rfl,?_⟩;have n0_:=qAm (blk_below (g:=gb354) (o:=.cells #[.int .i64 a0_0,.slice A0_1 l0_1.length c0_1] 26 (0,0)) qB141 hb);have n1_:=qAm (below_step qB94 hb);clear BK354 HB;have BK354:=n0_;have HB:=n1_;clear n0_ n1_
   (try clear hb)
   (try clear hb2)
   (try clear hk)
   (try clear hi)
   refine hK.out _ _ ⟨(blk_cell BK354.1 0).trans rfl,(blk_cell BK354.1 1).trans rfl⟩ (fun hHeld=>?_);clear hK K;refine norm_ (a':=?_) ?_ ?_;rotate_left
   ·show Act.put _ (some 12) _=_
    exact qU
   refine pure_ (i:=10) (N:=some 13) (v:=?_) (a':=?_) #[true,true,true,true,true,true,true,true,true,true,true,false,false,false,false,false,false,false] rfl rfl (any_of HT_.1 (by kernel_rfl)) (fun _ _ _ h=>h) (Or.inl ⟨by rfl,?_⟩) ?_ ?_;rotate_left
   ·intro w';go_simp;with_reducible rfl
   rotate_left
   ·exact qU
   refine pure_ (i:=11) (N:=some 14) (v:=?_) (a':=?_) #[true,true,true,true,true,true,true,true,true,true,true,true,false,false,false,false,false,false] rfl rfl (any_of HT_.1 (by kernel_rfl)) (fun _ _ _ h=>h) (Or.inl ⟨by rfl,?_⟩) ?_ ?_;rotate_left
   ·intro w';go_simp;with_reducible rfl
   rotate_left
   ·exact qU
   refine pure_ (i:=12) (N:=some 15) (v:=?_) (a':=?_) #[true,true,true,true,true,true,true,true,true,true,true,true,true,false,false,false,false,false] rfl rfl (any_of HT_.1 (by kernel_rfl)) (fun _ _ _ h=>h) (Or.inl ⟨by rfl,?_⟩) ?_ ?_;rotate_left
   ·intro w';go_simp;with_reducible rfl
   rotate_left
   ·exact qU
   refine pure_ (i:=13) (N:=some 16) (v:=undef) (a':=?_) #[true,true,true,true,true,true,true,true,true,true,true,true,true,true,false,false,false,false] rfl rfl (any_of HT_.1 (by kernel_rfl)) (fun _ _ _ h=>h) (Or.inr ⟨by rfl,rfl⟩) ?_ ?_;rotate_left
   ·exact qU
   refine pure_ (i:=14) (N:=some 17) (v:=undef) (a':=?_) #[true,true,true,true,true,true,true,true,true,true,true,true,true,true,true,false,false,false] rfl rfl (any_of HT_.1 (by kernel_rfl)) (fun _ _ _ h=>h) (Or.inr ⟨by rfl,rfl⟩) ?_ ?_;rotate_left
   ·exact qU
   refine pure_ (i:=15) (N:=some 18) (v:=undef) (a':=?_) #[true,true,true,true,true,true,true,true,true,true,true,true,true,true,true,true,false,false] rfl rfl (any_of HT_.1 (by kernel_rfl)) (fun _ _ _ h=>h) (Or.inr ⟨by rfl,rfl⟩) ?_ ?_;rotate_left
   ·exact qU
   refine pure_ (i:=16) (N:=some 19) (v:=?_) (a':=?_) #[true,true,true,true,true,true,true,true,true,true,true,true,true,true,true,true,true,false] rfl rfl (any_of HT_.1 (by kernel_rfl)) (fun _ _ _ h=>h) (Or.inl ⟨by rfl,?_⟩) ?_ ?_;rotate_left
   ·intro w';go_simp;with_reducible rfl
   rotate_left
   ·exact qU
   refine pure_ (i:=17) (N:=some 2) (v:=?_) (a':=?_) #[true,true,true,true,true,true,true,true,true,true,true,true,true,true,true,true,true,true] rfl rfl (any_of HT_.1 (by kernel_rfl)) (fun _ _ _ h=>h) (Or.inl ⟨by rfl,?_⟩) ?_ ?_;rotate_left
   ·intro w';go_simp;with_reducible rfl
   rotate_left
   ·exact qU
   refine done_ (done_of HT_.1 (by kernel_rfl)) ?_;try go_wp2
   go_ret;exact⟨by first|rfl|(simp [errW_none,errW_some] <;> rfl)|(simp [*,errW_none,errW_some] <;> rfl),by repeat(first|(with_reducible first|exact HB.1|apply below_alloc|apply pw_below_drewN|apply below_drew1|refine below_set ?_ GE354.1)|exact HB.1)⟩
 ·replace c3:=Bool.eq_false_iff.mpr c3;subst c3;have H1:(some false)=some r:=by rw [if_neg (show ¬(false=true) by decide)] at H;exact H
  clear H;have H:=H1;clear H1;obtain rfl:=Option.some.inj H;go_enter Try.func66,Try.ntmps66;try go_wp2_with (first|((with_reducible refine gate_dst (N:=1) rfl ?_);(try(refine gate_guard (by rfl) ?_;dsimp only));refine box_event qL (N:=1) qL (cs:=#[.int .i64 a0_0,.slice A0_1 l0_1.length c0_1]) (t:=26) qR ?_;intro gb354 hg w14 hbox hb;have n0_:=qAm (below_step qB111 hb);have n1_:=qAm (hbox);have n2_:=qAm ((by rw [hg];exact(below_size qB111):w.heap.size≤gb354));have n3_:=qAm ((by rw [hg];exact(below_size qB111):w.heap.size≤gb354));clear HB;have HB:=n0_;have BK354:=n1_;have GW354:=n2_;have GE354:=n3_;clear n0_ n1_ n2_ n3_;clear hb hbox hg))
  have n0_:=qAm (blk_drew BK354.1);have n1_:=qAm (below_drew1 HB.1);clear BK354 HB;have BK354:=n0_;have HB:=n1_;clear n0_ n1_;refine start_ (n:=18) (S:=fun w'=>w'.cell? ⟨gb354,0,none⟩=some (.int .i64 a0_0)∧w'.cell? ⟨gb354,1,none⟩=some (.slice A0_1 l0_1.length c0_1)) (ds:=[]) #[false,false,false,false,false,false,false,false,false,false,false,false,false,false,false,false,false,false] (by kernel_rfl) rfl rfl ⟨(blk_cell BK354.1 0).trans rfl,(blk_cell BK354.1 1).trans rfl⟩ (fun hHeld=>?_);refine with_tabW impl_IsCyclo.tab1 impl_IsCyclo.bits1 (fun HT_ HW_=>?_);generalize w14.drew=w15 at BK354 HB hHeld ⊢;refine pure_ (i:=0) (N:=some 3) (v:=?_) (a':=?_) #[true,false,false,false,false,false,false,false,false,false,false,false,false,false,false,false,false,false] rfl rfl (any_of HT_.1 (by kernel_rfl)) (fun _ _ _ h=>h) (Or.inl ⟨by rfl,?_⟩) ?_ ?_;rotate_left
  ·intro w';go_simp;with_reducible rfl
  rotate_left
  ·exact qU
  refine take_ (i:=1) (N:=some 4) (v:=?_) (a':=?_) #[true,true,false,false,false,false,false,false,false,false,false,false,false,false,false,false,false,false] rfl rfl (take_ofW HT_.1 HW_.1 (by kernel_rfl)) (fun _ _ _ h=>h) (Or.inl ⟨by rfl,?_⟩) hHeld ?_ ?_;rotate_left
  ·rintro w' ⟨s0,s1⟩;go_simp;with_reducible rfl
  rotate_left
  ·exact qU
  refine one_ (i:=2) (N:=some 5) #[true,true,true,false,false,false,false,false,false,false,false,false,false,false,false,false,false,false] rfl rfl (one_of HT_.1 (by kernel_rfl)) (by decide) (fun K hK=>?_);refine goes_ Try.func73 (by kernel_rfl) rfl #[.int .i64 a0_0] (by rfl) rfl rfl qB108 ?_;with_reducible refine(impl_isOrder.calls a0_0 false _ A2.1).mono ?_
  rintro e w' ⟨rfl,⟨nd,rfl⟩⟩;refine⟨_,rfl,?_⟩;refine hK.out _ _ ⟨(blk_cell BK354.1 0).trans rfl,(blk_cell BK354.1 1).trans rfl⟩ (fun hHeld=>?_);clear hK K;refine norm_ (a':=?_) ?_ ?_;rotate_left
  ·show Act.put _ (some 5) _=_
   exact qU
  refine pure_ (i:=3) (N:=some 6) (v:=?_) (a':=?_) #[true,true,true,true,false,false,false,false,false,false,false,false,false,false,false,false,false,false] rfl rfl (any_of HT_.1 (by kernel_rfl)) (fun _ _ _ h=>h) (Or.inl ⟨by rfl,?_⟩) ?_ ?_;rotate_left
  ·intro w';go_simp;with_reducible rfl
  rotate_left
  ·exact qU
  refine pure_ (i:=4) (N:=some 7) (v:=undef) (a':=?_) #[true,true,true,true,true,false,false,false,false,false,false,false,false,false,false,false,false,false] rfl rfl (any_of HT_.1 (by kernel_rfl)) (fun _ _ _ h=>h) (Or.inr ⟨by rfl,rfl⟩) ?_ ?_;rotate_left
  ·exact qU
  refine pure_ (i:=5) (N:=some 8) (v:=undef) (a':=?_) #[true,true,true,true,true,true,false,false,false,false,false,false,false,false,false,false,false,false] rfl rfl (any_of HT_.1 (by kernel_rfl)) (fun _ _ _ h=>h) (Or.inr ⟨by rfl,rfl⟩) ?_ ?_;rotate_left
  ·exact qU
  refine pure_ (i:=6) (N:=some 9) (v:=undef) (a':=?_) #[true,true,true,true,true,true,true,false,false,false,false,false,false,false,false,false,false,false] rfl rfl (any_of HT_.1 (by kernel_rfl)) (fun _ _ _ h=>h) (Or.inr ⟨by rfl,rfl⟩) ?_ ?_;rotate_left
  ·exact qU
  refine pure_ (i:=7) (N:=some 10) (v:=undef) (a':=?_) #[true,true,true,true,true,true,true,true,false,false,false,false,false,false,false,false,false,false] rfl rfl (any_of HT_.1 (by kernel_rfl)) (fun _ _ _ h=>h) (Or.inr ⟨by rfl,rfl⟩) ?_ ?_;rotate_left
  ·exact qU
  refine pure_ (i:=8) (N:=some 11) (v:=undef) (a':=?_) #[true,true,true,true,true,true,true,true,true,false,false,false,false,false,false,false,false,false] rfl rfl (any_of HT_.1 (by kernel_rfl)) (fun _ _ _ h=>h) (Or.inr ⟨by rfl,rfl⟩) ?_ ?_;rotate_left
  ·exact qU
  refine pure_ (i:=9) (N:=some 12) (v:=undef) (a':=?_) #[true,true,true,true,true,true,true,true,true,true,false,false,false,false,false,false,false,false] rfl rfl (any_of HT_.1 (by kernel_rfl)) (fun _ _ _ h=>h) (Or.inr ⟨by rfl,rfl⟩) ?_ ?_;rotate_left
  ·exact qU
  refine pure_ (i:=10) (N:=some 13) (v:=undef) (a':=?_) #[true,true,true,true,true,true,true,true,true,true,true,false,false,false,false,false,false,false] rfl rfl (any_of HT_.1 (by kernel_rfl)) (fun _ _ _ h=>h) (Or.inr ⟨by rfl,rfl⟩) ?_ ?_;rotate_left
  ·exact qU
  refine pure_ (i:=11) (N:=some 14) (v:=?_) (a':=?_) #[true,true,true,true,true,true,true,true,true,true,true,true,false,false,false,false,false,false] rfl rfl (any_of HT_.1 (by kernel_rfl)) (fun _ _ _ h=>h) (Or.inl ⟨by rfl,?_⟩) ?_ ?_;rotate_left
  ·intro w';go_simp;with_reducible rfl
  rotate_left
  ·exact qU
  refine pure_ (i:=12) (N:=some 15) (v:=?_) (a':=?_) #[true,true,true,true,true,true,true,true,true,true,true,true,true,false,false,false,false,false] rfl rfl (any_of HT_.1 (by kernel_rfl)) (fun _ _ _ h=>h) (Or.inl ⟨by rfl,?_⟩) ?_ ?_;rotate_left
  ·intro w';go_simp;with_reducible rfl
  rotate_left
  ·exact qU
  refine pure_ (i:=13) (N:=some 16) (v:=undef) (a':=?_) #[true,true,true,true,true,true,true,true,true,true,true,true,true,true,false,false,false,false] rfl rfl (any_of HT_.1 (by kernel_rfl)) (fun _ _ _ h=>h) (Or.inr ⟨by rfl,rfl⟩) ?_ ?_;rotate_left
  ·exact qU
  refine pure_ (i:=14) (N:=some 17) (v:=undef) (a':=?_) #[true,true,true,true,true,true,true,true,true,true,true,true,true,true,true,false,false,false] rfl rfl (any_of HT_.1 (by kernel_rfl)) (fun _ _ _ h=>h) (Or.inr ⟨by rfl,rfl⟩) ?_ ?_;rotate_left
  ·exact qU
  refine pure_ (i:=15) (N:=some 18) (v:=undef) (a':=?_) #[true,true,true,true,true,true,true,true,true,true,true,true,true,true,true,true,false,false] rfl rfl (any_of HT_.1 (by kernel_rfl)) (fun _ _ _ h=>h) (Or.inr ⟨by rfl,rfl⟩) ?_ ?_;rotate_left
  ·exact qU
  refine pure_ (i:=16) (N:=some 19) (v:=?_) (a':=?_) #[true,true,true,true,true,true,true,true,true,true,true,true,true,true,true,true,true,false] rfl rfl (any_of HT_.1 (by kernel_rfl)) (fun _ _ _ h=>h) (Or.inl ⟨by rfl,?_⟩) ?_ ?_;rotate_left
  ·intro w';go_simp;with_reducible rfl
  rotate_left
  ·exact qU
  refine pure_ (i:=17) (N:=some 2) (v:=?_) (a':=?_) #[true,true,true,true,true,true,true,true,true,true,true,true,true,true,true,true,true,true] rfl rfl (any_of HT_.1 (by kernel_rfl)) (fun _ _ _ h=>h) (Or.inl ⟨by rfl,?_⟩) ?_ ?_;rotate_left
  ·intro w';go_simp;with_reducible rfl
  rotate_left
  ·exact qU
  refine done_ (done_of HT_.1 (by kernel_rfl)) ?_;try go_wp2
  go_ret;exact⟨by first|rfl|(simp [errW_none,errW_some] <;> rfl)|(simp [*,errW_none,errW_some] <;> rfl),by repeat(first|(with_reducible first|exact HB.1|apply below_alloc|apply pw_below_drewN|apply below_drew1|refine below_set ?_ GE354.1)|exact HB.1)⟩

/-! ### impl_IsCubicNumber: function 55 -/
def impl_IsCubicNumber.f (k:Nat) (a0_0:Int) (l0_1:List Int):Option (Bool):=(impl_IsCyclo.f k a0_0 l0_1).bind fun t359=>(if t359=true then (if a0_0=3 then ((impl_areSmall.f l0_1 10000).bind fun t360=>(some t360)) else (some false)) else (some false))
theorem impl_IsCubicNumber.mono:∀a0 a1 k,LeO (impl_IsCubicNumber.f k a0 a1) (impl_IsCubicNumber.f (k+1) a0 a1):=by
 intro a0 a1 k;unfold impl_IsCubicNumber.f;repeat' first
   |(with_reducible exact impl_IsCyclo.mono _ _ _)
   |(with_reducible exact LeO.refl _)
   |(with_reducible exact LeO.none _)
   |(with_reducible refine LeO.ite ?_ ?_)
   |(with_reducible refine LeO.bind ?_ (fun _=>?_))
   |exact impl_IsCyclo.mono _ _ _
   |exact LeO.none _
   |refine LeO.ite ?_ ?_
   |refine LeO.bind ?_ (fun _=>?_)
set_option maxHeartbeats 8000000 in
set_option maxRecDepth 100000 in
theorem impl_IsCubicNumber.calls (k:Nat) (a0_0:Int) (A0_1:Option Addr) (c0_1:Nat) (l0_1:List Int) (r:Bool) (w:World) (hr0_1:Kd.C (Kd.int .i64) w A0_1 l0_1.length l0_1) (hc0_1:l0_1.length≤c0_1) (h:impl_IsCubicNumber.f k a0_0 l0_1=some r):
  Calls Try.prog 55 #[.agg #[.int .i64 a0_0,.slice A0_1 l0_1.length c0_1]] w fun e w'=>e=.returned (.bool r)∧Below w.heap.size w w':=by
 have hu26:=Try.underlying26;have HR0_1:=qAm hr0_1;have HC0_1:=qAm hc0_1;clear hr0_1 hc0_1;have HB:=qAm (Below.refl w.heap.size w);have H:((impl_IsCyclo.f k a0_0 l0_1).bind fun t359=>(if t359=true then (if a0_0=3 then ((impl_areSmall.f l0_1 10000).bind fun t360=>(some t360)) else (some false)) else (some false)))=some r:=h;clear h;replace H:=qOb H;obtain⟨t359,A20,H⟩:=H;replace H:(if t359=true then (if a0_0=3 then ((impl_areSmall.f l0_1 10000).bind fun t360=>(some t360)) else (some false)) else (some false))=some r:=H;have A2:=qAm A20;clear A20
 by_cases c3:t359=true
 ·subst c3;have H1:(if a0_0=3 then ((impl_areSmall.f l0_1 10000).bind fun t360=>(some t360)) else (some false))=some r:=by rw [if_pos rfl] at H;exact H
  clear H;have H:=H1;clear H1
  by_cases c4:a0_0=3
  ·rw [if_pos c4] at H;have c4b0:(a0_0==3)=true:=beq_iff_eq.mpr c4;have c4b1:(a0_0 !=3)=false:=bne_eq_false_iff_eq.mpr c4;clear c4;replace H:=qOb H;obtain⟨t360,A50,H⟩:=H;replace H:(some t360)=some r:=H;have A5:=qAm A50;clear A50;obtain rfl:=Option.some.inj H;go_enter Try.func55,Try.ntmps55;go_wp2_with (first|((with_reducible refine gate_dst (N:=1) rfl ?_);refine box_event qL (N:=1) qL (cs:=#[.int .i64 a0_0,.slice A0_1 l0_1.length c0_1]) (t:=26) qR ?_;intro gb358 hg w6 hbox hb;have n0_:=qAm (below_step qB111 hb);have n1_:=qAm (hbox);have n2_:=qAm ((by rw [hg];exact(below_size qB111):w.heap.size≤gb358));have n3_:=qAm ((by rw [hg];exact(below_size qB111):w.heap.size≤gb358));clear HB;have HB:=n0_;have BK358:=n1_;have GW358:=n2_;have GE358:=n3_;clear n0_ n1_ n2_ n3_;clear hb hbox hg;have hcz7_0:w6.cell? ⟨gb358,0,none⟩=some (.int .i64 a0_0):=(blk_cell BK358.1 0).trans rfl;have hcz7_1:w6.cell? ⟨gb358,1,none⟩=some (.slice A0_1 l0_1.length c0_1):=(blk_cell BK358.1 1).trans rfl;have hfz7_0:=blk_frozen BK358.1 0;have hfz7_1:=blk_frozen BK358.1 1)|((with_reducible refine gate_callee (f:=66) rfl ?_);refine goesL_ (some 4) rfl rfl Try.func66 (by kernel_rfl) rfl #[.agg #[.int .i64 a0_0,.slice A0_1 l0_1.length c0_1]] rfl qB108 ?_;(with_reducible refine(impl_IsCyclo.calls k a0_0 _ _ l0_1 true _ ?side1 ?side2 A2.1).mono ?_);(case side1=>repeat(first|exact(Kd.C_below HR0_1.1 HB.1)|(with_reducible refine Kd.C_alloc ?_ _)|(with_reducible refine Kd.C_drewN ?_ _)|(with_reducible refine Kd.C_drew ?_)));(case side2=>exact HC0_1.1);rintro e w8 ⟨rfl,hb⟩;refine⟨_,rfl,?_⟩;have n0_:=qAm (blk_below (g:=gb358) (o:=.cells #[.int .i64 a0_0,.slice A0_1 l0_1.length c0_1] 26 (0,0)) qB142 hb);have n1_:=qAm (below_step qB95 hb);clear BK358;clear HB;have BK358:=n0_;have HB:=n1_;clear n0_ n1_;(try clear hb);(try clear hb2);(try clear hk);(try clear hi);have hcz9_0:w8.cell? ⟨gb358,0,none⟩=some (.int .i64 a0_0):=(blk_cell BK358.1 0).trans rfl;have hcz9_1:w8.cell? ⟨gb358,1,none⟩=some (.slice A0_1 l0_1.length c0_1):=(blk_cell BK358.1 1).trans rfl;have hfz9_0:=blk_frozen BK358.1 0;have hfz9_1:=blk_frozen BK358.1 1)|(go_at_call 58;(with_reducible refine(impl_areSmall.calls _ _ l0_1 10000 t360 _ ?side1 ?side2 A5.1).mono ?_);(case side1=>repeat(first|exact(Kd.C_below HR0_1.1 HB.1)|(with_reducible refine Kd.C_alloc ?_ _)|(with_reducible refine Kd.C_drewN ?_ _)|(with_reducible refine Kd.C_drew ?_)));(case side2=>exact HC0_1.1);rintro e w10 ⟨rfl,hb⟩;have n0_:=qAm (blk_below (g:=gb358) (o:=.cells #[.int .i64 a0_0,.slice A0_1 l0_1.length c0_1] 26 (0,0)) qB142 hb);have n1_:=qAm (below_step qB95 hb);clear BK358;clear HB;have BK358:=n0_;have HB:=n1_;clear n0_ n1_;(try clear hb);(try clear hb2);(try clear hk);(try clear hi)));go_ret;exact⟨by first|rfl|(simp [errW_none,errW_some] <;> rfl)|(simp [*,errW_none,errW_some] <;> rfl),by repeat(first|(with_reducible first|exact HB.1|apply below_alloc|apply pw_below_drewN|apply below_drew1|refine below_set ?_ GE358.1)|exact HB.1)⟩
  ·rw [if_neg c4] at H;have c4b0:(a0_0==3)=false:=beq_eq_false_iff_ne.mpr c4;have c4b1:(a0_0 !=3)=true:=bne_iff_ne.mpr c4;obtain rfl:=Option.some.inj H;go_enter Try.func55,Try.ntmps55;go_wp2_with (first|((with_reducible refine gate_dst (N:=1) rfl ?_);refine box_event qL (N:=1) qL (cs:=#[.int .i64 a0_0,.slice A0_1 l0_1.length c0_1]) (t:=26) qR ?_;intro gb358 hg w11 hbox hb;have n0_:=qAm (below_step qB111 hb);have n1_:=qAm (hbox);have n2_:=qAm ((by rw [hg];exact(below_size qB111):w.heap.size≤gb358));have n3_:=qAm ((by rw [hg];exact(below_size qB111):w.heap.size≤gb358));clear HB;have HB:=n0_;have BK358:=n1_;have GW358:=n2_;have GE358:=n3_;clear n0_ n1_ n2_ n3_;clear hb hbox hg;have hcz12_0:w11.cell? ⟨gb358,0,none⟩=some (.int .i64 a0_0):=(blk_cell BK358.1 0).trans rfl;have hcz12_1:w11.cell? ⟨gb358,1,none⟩=some (.slice A0_1 l0_1.length c0_1):=(blk_cell BK358.1 1).trans rfl;have hfz12_0:=blk_frozen BK358.1 0;have hfz12_1:=blk_frozen BK358.1 1)|((with_reducible refine gate_callee (f:=66) rfl ?_);refine goesL_ (some 4) rfl rfl Try.func66 (by kernel_rfl) rfl #[.agg #[.int .i64 a0_0,.slice A0_1 l0_1.length c0_1]] rfl qB108 ?_;(with_reducible refine(impl_IsCyclo.calls k a0_0 _ _ l0_1 true _ ?side1 ?side2 A2.1).mono ?_);(case side1=>repeat(first|exact(Kd.C_below HR0_1.1 HB.1)|(with_reducible refine Kd.C_alloc ?_ _)|(with_reducible refine Kd.C_drewN ?_ _)|(with_reducible refine Kd.C_drew ?_)));(case side2=>exact HC0_1.1);rintro e w13 ⟨rfl,hb⟩;refine⟨_,rfl,?_⟩;have n0_:=qAm (blk_below (g:=gb358) (o:=.cells #[.int .i64 a0_0,.slice A0_1 l0_1.length c0_1] 26 (0,0)) qB142 hb);have n1_:=qAm (below_step qB95 hb);clear BK358;clear HB;have BK358:=n0_;have HB:=n1_;clear n0_ n1_;(try clear hb);(try clear hb2);(try clear hk);(try clear hi);have hcz14_0:w13.cell? ⟨gb358,0,none⟩=some (.int .i64 a0_0):=(blk_cell BK358.1 0).trans rfl;have hcz14_1:w13.cell? ⟨gb358,1,none⟩=some (.slice A0_1 l0_1.length c0_1):=(blk_cell BK358.1 1).trans rfl;have hfz14_0:=blk_frozen BK358.1 0;have hfz14_1:=blk_frozen BK358.1 1));go_ret;exact⟨by first|rfl|(simp [errW_none,errW_some] <;> rfl)|(simp [*,errW_none,errW_some] <;> rfl),by repeat(first|(with_reducible first|exact HB.1|apply below_alloc|apply pw_below_drewN|apply below_drew1|refine below_set ?_ GE358.1)|exact HB.1)⟩
 ·replace c3:=Bool.eq_false_iff.mpr c3;subst c3;have H1:(some false)=some r:=by rw [if_neg (show ¬(false=true) by decide)] at H;exact H
  clear H;have H:=H1;clear H1;obtain rfl:=Option.some.inj H;go_enter Try.func55,Try.ntmps55;go_wp2_with (first|((with_reducible refine gate_dst (N:=1) rfl ?_);refine box_event qL (N:=1) qL (cs:=#[.int .i64 a0_0,.slice A0_1 l0_1.length c0_1]) (t:=26) qR ?_;intro gb358 hg w15 hbox hb;have n0_:=qAm (below_step qB111 hb);have n1_:=qAm (hbox);have n2_:=qAm ((by rw [hg];exact(below_size qB111):w.heap.size≤gb358));have n3_:=qAm ((by rw [hg];exact(below_size qB111):w.heap.size≤gb358));clear HB;have HB:=n0_;have BK358:=n1_;have GW358:=n2_;have GE358:=n3_;clear n0_ n1_ n2_ n3_;clear hb hbox hg;have hcz16_0:w15.cell? ⟨gb358,0,none⟩=some (.int .i64 a0_0):=(blk_cell BK358.1 0).trans rfl;have hcz16_1:w15.cell? ⟨gb358,1,none⟩=some (.slice A0_1 l0_1.length c0_1):=(blk_cell BK358.1 1).trans rfl;have hfz16_0:=blk_frozen BK358.1 0;have hfz16_1:=blk_frozen BK358.1 1)|((with_reducible refine gate_callee (f:=66) rfl ?_);refine goesL_ (some 4) rfl rfl Try.func66 (by kernel_rfl) rfl #[.agg #[.int .i64 a0_0,.slice A0_1 l0_1.length c0_1]] rfl qB108 ?_;(with_reducible refine(impl_IsCyclo.calls k a0_0 _ _ l0_1 false _ ?side1 ?side2 A2.1).mono ?_);(case side1=>repeat(first|exact(Kd.C_below HR0_1.1 HB.1)|(with_reducible refine Kd.C_alloc ?_ _)|(with_reducible refine Kd.C_drewN ?_ _)|(with_reducible refine Kd.C_drew ?_)));(case side2=>exact HC0_1.1);rintro e w17 ⟨rfl,hb⟩;refine⟨_,rfl,?_⟩;have n0_:=qAm (blk_below (g:=gb358) (o:=.cells #[.int .i64 a0_0,.slice A0_1 l0_1.length c0_1] 26 (0,0)) qB142 hb);have n1_:=qAm (below_step qB95 hb);clear BK358;clear HB;have BK358:=n0_;have HB:=n1_;clear n0_ n1_;(try clear hb);(try clear hb2);(try clear hk);(try clear hi)));go_ret;exact⟨by first|rfl|(simp [errW_none,errW_some] <;> rfl)|(simp [*,errW_none,errW_some] <;> rfl),by repeat(first|(with_reducible first|exact HB.1|apply below_alloc|apply pw_below_drewN|apply below_drew1|refine below_set ?_ GE358.1)|exact HB.1)⟩

end Go.Proofs.Ytejpliodhnglbaa.PFnExactCubicSymbol
