/- The functions that the law reaches, as plain functions, each with the proof that the program comes to it; no condition. Written by a program of this session (wip/mp.py) over the printing of the kit; what is marked HAND is told by hand. -/
import Derived.Test.YthljmbobccaalaaPFnExactMultiplyCyclosx0
import Derived.Test.YthljmbobccaalaaPFnExactMultiplyCyclosx7
namespace Go.Proofs.Ythljmbobccaalaa.PFnExactMultiplyCyclos
open Go.RowKit Go.Proofs.YthljmbobccaalaaW.PrintWords Go.Proofs.YthljmbobccaalaaW.PrintLast Go.Proofs.YthljmbobccaalaaW.PrintMore
attribute [local go_sem] max2_int min2_int max_two min_two max_three min_three max_four min_four   -- for this text's walks alone
set_option linter.unusedVariables false
set_option linter.unusedSimpArgs false

/-! ### impl_IsCyclo: function 46 -/
def impl_IsCyclo.f (k:Nat) (a0_0:Int) (l0_1:List Int):Option (Bool):=(impl_isOrder.f a0_0).bind fun t244=>(if t244=true then ((impl_totient.f k a0_0).bind fun t245=>(if (l0_1.length:Int)=t245 then ((impl_areSmall.f l0_1 1000000000).bind fun t246=>(some t246)) else (some false))) else (some false))
theorem impl_IsCyclo.mono:∀a0 a1 k,LeO (impl_IsCyclo.f k a0 a1) (impl_IsCyclo.f (k+1) a0 a1):=by
 intro a0 a1 k;unfold impl_IsCyclo.f;repeat' first
   |(with_reducible exact impl_totient.mono _ _)
   |(with_reducible exact LeO.refl _)
   |(with_reducible exact LeO.none _)
   |(with_reducible refine LeO.ite ?_ ?_)
   |(with_reducible refine LeO.bind ?_ (fun _=>?_))
   |exact impl_totient.mono _ _
   |exact LeO.none _
   |refine LeO.ite ?_ ?_
   |refine LeO.bind ?_ (fun _=>?_)
def impl_IsCyclo.T1:Bool×List (List Nat×List Nat):=(true,[([],[]),([0],[0]),([1],[1]),([2,2],[2]),([3],[3]),([4,3],[3,4]),([5,3],[3,5]),([3],[3]),([7,3],[3,7]),([8,3,3],[3,8]),([6,9,3],[3,6,9]),([3,10],[3,10]),([11,9],[11]),([12],[12]),([13,12],[12,13]),([14,12,12],[12,14]),([12,15],[12,15]),([16,15,0,1,2,3,4,5,6,7,8,9,10,11,12,13,14,15,16],[16])])
def impl_IsCyclo.B1:List Nat:=[0,1,3,7,15,31,63,15,143,399,1023,2047,4095,8191,16383,32767,65535,131071]
theorem impl_IsCyclo.tab1:rtab .any (opsOf Try.f46 1)=impl_IsCyclo.T1:=by kernel_rfl
theorem impl_IsCyclo.bits1:waitsOk impl_IsCyclo.T1.2 impl_IsCyclo.B1=true:=by kernel_rfl
set_option maxHeartbeats 8000000 in
set_option maxRecDepth 100000 in
theorem impl_IsCyclo.calls (k:Nat) (a0_0:Int) (A0_1:Option Addr) (c0_1:Nat) (l0_1:List Int) (r:Bool) (w:World) (hr0_1:Kd.C (Kd.int .i64) w A0_1 l0_1.length l0_1) (hc0_1:l0_1.length≤c0_1) (h:impl_IsCyclo.f k a0_0 l0_1=some r):
  Calls Try.prog 46 #[.agg #[.int .i64 a0_0,.slice A0_1 l0_1.length c0_1]] w fun e w'=>e=.returned (.bool r)∧Below w.heap.size w w':=by
 have hu26:=Try.underlying26;have HR0_1:=qAm hr0_1;have HC0_1:=qAm hc0_1;clear hr0_1 hc0_1;have HB:=qAm (Below.refl w.heap.size w);have H:((impl_isOrder.f a0_0).bind fun t244=>(if t244=true then ((impl_totient.f k a0_0).bind fun t245=>(if (l0_1.length:Int)=t245 then ((impl_areSmall.f l0_1 1000000000).bind fun t246=>(some t246)) else (some false))) else (some false)))=some r:=h;clear h;replace H:=qOb H;obtain⟨t244,A20,H⟩:=H;replace H:(if t244=true then ((impl_totient.f k a0_0).bind fun t245=>(if (l0_1.length:Int)=t245 then ((impl_areSmall.f l0_1 1000000000).bind fun t246=>(some t246)) else (some false))) else (some false))=some r:=H;have A2:=qAm A20;clear A20
 by_cases c3:t244=true
 ·subst c3;have H1:((impl_totient.f k a0_0).bind fun t245=>(if (l0_1.length:Int)=t245 then ((impl_areSmall.f l0_1 1000000000).bind fun t246=>(some t246)) else (some false)))=some r:=by rw [if_pos rfl] at H;exact H
  clear H;have H:=H1;clear H1;replace H:=qOb H;obtain⟨t245,A40,H⟩:=H;replace H:(if (l0_1.length:Int)=t245 then ((impl_areSmall.f l0_1 1000000000).bind fun t246=>(some t246)) else (some false))=some r:=H;have A4:=qAm A40;clear A40
  by_cases c5:(l0_1.length:Int)=t245
  ·rw [if_pos c5] at H;have c5b0:((l0_1.length:Int)==t245)=true:=beq_iff_eq.mpr c5;have c5b1:((l0_1.length:Int) !=t245)=false:=bne_eq_false_iff_eq.mpr c5;clear c5;replace H:=qOb H;obtain⟨t246,A60,H⟩:=H;replace H:(some t246)=some r:=H;have A6:=qAm A60;clear A60;obtain rfl:=Option.some.inj H;go_enter Try.func46,Try.ntmps46;try go_wp2_with (first|((with_reducible refine gate_dst (N:=1) rfl ?_);(try(refine gate_guard (by rfl) ?_;dsimp only));refine box_event ?hg (N:=1) ?hd (cs:=#[.int .i64 a0_0,.slice A0_1 l0_1.length c0_1]) (t:=26) ?hr ?_;(case hd=>rfl);(case hg=>rfl);(case hr=>first|(go_simp;done)|(go_simp;rfl));intro gb243 hg w7 hbox hb;have n0_:=qAm (below_step qB90 hb);have n1_:=qAm (hbox);have n2_:=qAm ((by rw [hg];exact(below_size qB90):w.heap.size≤gb243));have n3_:=qAm ((by rw [hg];exact(below_size qB90):w.heap.size≤gb243));clear HB;have HB:=n0_;have BK243:=n1_;have GW243:=n2_;have GE243:=n3_;clear n0_ n1_ n2_ n3_;clear hb hbox hg))
   have n0_:=qAm (blk_drew BK243.1);have n1_:=qAm (below_drew1 HB.1);clear BK243 HB;have BK243:=n0_;have HB:=n1_;clear n0_ n1_;refine start_ (n:=18) (S:=fun w'=>w'.cell? ⟨gb243,0,none⟩=some (.int .i64 a0_0)∧w'.cell? ⟨gb243,1,none⟩=some (.slice A0_1 l0_1.length c0_1)) (ds:=[]) #[false,false,false,false,false,false,false,false,false,false,false,false,false,false,false,false,false,false] (by kernel_rfl) rfl rfl ⟨(blk_cell BK243.1 0).trans rfl,(blk_cell BK243.1 1).trans rfl⟩ (fun hHeld=>?_);refine with_tabW impl_IsCyclo.tab1 impl_IsCyclo.bits1 (fun HT_ HW_=>?_);generalize w7.drew=w8 at BK243 HB hHeld ⊢;refine pure_ (i:=0) (N:=some 3) (v:=?_) (a':=?_) #[true,false,false,false,false,false,false,false,false,false,false,false,false,false,false,false,false,false] rfl rfl (any_of HT_.1 (by kernel_rfl)) (fun _ _ _ h=>h) (Or.inl ⟨by rfl,?_⟩) ?_ ?_;rotate_left
   ·intro w';go_simp;with_reducible rfl
   rotate_left
   ·simp only [Act.put,qSa,qSb,qSc,i64_w,i32_w];rfl
   refine take_ (i:=1) (N:=some 4) (v:=?_) (a':=?_) #[true,true,false,false,false,false,false,false,false,false,false,false,false,false,false,false,false,false] rfl rfl (take_ofW HT_.1 HW_.1 (by kernel_rfl)) (fun _ _ _ h=>h) (Or.inl ⟨by rfl,?_⟩) hHeld ?_ ?_;rotate_left
   ·rintro w' ⟨s0,s1⟩;go_simp;with_reducible rfl
   rotate_left
   ·simp only [Act.put,qSa,qSb,qSc,i64_w,i32_w];rfl
   refine one_ (i:=2) (N:=some 5) #[true,true,true,false,false,false,false,false,false,false,false,false,false,false,false,false,false,false] rfl rfl (one_of HT_.1 (by kernel_rfl)) (by decide) (fun K hK=>?_);refine goes_ Try.func71 (by kernel_rfl) rfl #[.int .i64 a0_0] (by rfl) rfl rfl qB89 ?_;with_reducible refine(impl_isOrder.calls a0_0 true _ A2.1).mono ?_
   rintro e w' ⟨rfl,⟨nd,rfl⟩⟩;refine⟨_,rfl,?_⟩;refine hK.out _ _ ⟨(blk_cell BK243.1 0).trans rfl,(blk_cell BK243.1 1).trans rfl⟩ (fun hHeld=>?_);clear hK K;refine norm_ (a':=?_) ?_ ?_;rotate_left
   ·show Act.put _ (some 5) _=_
    simp only [Act.put,qSa,qSb,qSc,i64_w,i32_w];rfl
   refine pure_ (i:=3) (N:=some 6) (v:=?_) (a':=?_) #[true,true,true,true,false,false,false,false,false,false,false,false,false,false,false,false,false,false] rfl rfl (any_of HT_.1 (by kernel_rfl)) (fun _ _ _ h=>h) (Or.inl ⟨by rfl,?_⟩) ?_ ?_;rotate_left
   ·intro w';go_simp;with_reducible rfl
   rotate_left
   ·simp only [Act.put,qSa,qSb,qSc,i64_w,i32_w];rfl
   refine pure_ (i:=4) (N:=some 7) (v:=?_) (a':=?_) #[true,true,true,true,true,false,false,false,false,false,false,false,false,false,false,false,false,false] rfl rfl (any_of HT_.1 (by kernel_rfl)) (fun _ _ _ h=>h) (Or.inl ⟨by rfl,?_⟩) ?_ ?_;rotate_left
   ·intro w';go_simp;with_reducible rfl
   rotate_left
   ·simp only [Act.put,qSa,qSb,qSc,i64_w,i32_w];rfl
   refine pure_ (i:=7) (N:=some 10) (v:=?_) (a':=?_) #[true,true,true,true,true,false,false,true,false,false,false,false,false,false,false,false,false,false] rfl rfl (any_of HT_.1 (by kernel_rfl)) (fun _ _ _ h=>h) (Or.inl ⟨by rfl,?_⟩) ?_ ?_;rotate_left
   ·intro w';go_simp;with_reducible rfl
   rotate_left
   ·simp only [Act.put,qSa,qSb,qSc,i64_w,i32_w];rfl
   refine take_ (i:=5) (N:=some 8) (v:=?_) (a':=?_) #[true,true,true,true,true,true,false,true,false,false,false,false,false,false,false,false,false,false] rfl rfl (take_ofW HT_.1 HW_.1 (by kernel_rfl)) (fun _ _ _ h=>h) (Or.inl ⟨by rfl,?_⟩) hHeld ?_ ?_;rotate_left
   ·rintro w' ⟨s0,s1⟩;go_simp;with_reducible rfl
   rotate_left
   ·simp only [Act.put,qSa,qSb,qSc,i64_w,i32_w];rfl
   refine pure_ (i:=6) (N:=some 9) (v:=?_) (a':=?_) #[true,true,true,true,true,true,true,true,false,false,false,false,false,false,false,false,false,false] rfl rfl (any_of HT_.1 (by kernel_rfl)) (fun _ _ _ h=>h) (Or.inl ⟨by rfl,?_⟩) ?_ ?_;rotate_left
   ·intro w';go_simp;with_reducible rfl
   rotate_left
   ·simp only [Act.put,qSa,qSb,qSc,i64_w,i32_w];rfl
   refine take_ (i:=8) (N:=some 11) (v:=?_) (a':=?_) #[true,true,true,true,true,true,true,true,true,false,false,false,false,false,false,false,false,false] rfl rfl (take_ofW HT_.1 HW_.1 (by kernel_rfl)) (fun _ _ _ h=>h) (Or.inl ⟨by rfl,?_⟩) hHeld ?_ ?_;rotate_left
   ·rintro w' ⟨s0,s1⟩;go_simp;with_reducible rfl
   rotate_left
   ·simp only [Act.put,qSa,qSb,qSc,i64_w,i32_w];rfl
   refine one_ (i:=9) (N:=some 12) #[true,true,true,true,true,true,true,true,true,true,false,false,false,false,false,false,false,false] rfl rfl (one_of HT_.1 (by kernel_rfl)) (by decide) (fun K hK=>?_);refine goes_ Try.func72 (by kernel_rfl) rfl #[.int .i64 a0_0] (by rfl) rfl rfl qB89 ?_;with_reducible refine(impl_totient.calls k a0_0 t245 _ A4.1).mono ?_
   rintro e w9 ⟨rfl,hb⟩;refine⟨_,rfl,?_⟩;have n0_:=qAm (blk_below (g:=gb243) (o:=.cells #[.int .i64 a0_0,.slice A0_1 l0_1.length c0_1] 26 (0,0)) qB110 hb);have n1_:=qAm (below_step qB71 hb);clear BK243 HB;have BK243:=n0_;have HB:=n1_;clear n0_ n1_
   (try clear hb)
   (try clear hb2)
   (try clear hk)
   (try clear hi)
   refine hK.out _ _ ⟨(blk_cell BK243.1 0).trans rfl,(blk_cell BK243.1 1).trans rfl⟩ (fun hHeld=>?_);clear hK K;refine norm_ (a':=?_) ?_ ?_;rotate_left
   ·show Act.put _ (some 12) _=_
    simp only [Act.put,qSa,qSb,qSc,i64_w,i32_w];rfl
   refine pure_ (i:=10) (N:=some 13) (v:=?_) (a':=?_) #[true,true,true,true,true,true,true,true,true,true,true,false,false,false,false,false,false,false] rfl rfl (any_of HT_.1 (by kernel_rfl)) (fun _ _ _ h=>h) (Or.inl ⟨by rfl,?_⟩) ?_ ?_;rotate_left
   ·intro w';go_simp;with_reducible rfl
   rotate_left
   ·simp only [Act.put,qSa,qSb,qSc,i64_w,i32_w];rfl
   refine pure_ (i:=11) (N:=some 14) (v:=?_) (a':=?_) #[true,true,true,true,true,true,true,true,true,true,true,true,false,false,false,false,false,false] rfl rfl (any_of HT_.1 (by kernel_rfl)) (fun _ _ _ h=>h) (Or.inl ⟨by rfl,?_⟩) ?_ ?_;rotate_left
   ·intro w';go_simp;with_reducible rfl
   rotate_left
   ·simp only [Act.put,qSa,qSb,qSc,i64_w,i32_w];rfl
   refine pure_ (i:=12) (N:=some 15) (v:=?_) (a':=?_) #[true,true,true,true,true,true,true,true,true,true,true,true,true,false,false,false,false,false] rfl rfl (any_of HT_.1 (by kernel_rfl)) (fun _ _ _ h=>h) (Or.inl ⟨by rfl,?_⟩) ?_ ?_;rotate_left
   ·intro w';go_simp;with_reducible rfl
   rotate_left
   ·simp only [Act.put,qSa,qSb,qSc,i64_w,i32_w];rfl
   refine pure_ (i:=13) (N:=some 16) (v:=?_) (a':=?_) #[true,true,true,true,true,true,true,true,true,true,true,true,true,true,false,false,false,false] rfl rfl (any_of HT_.1 (by kernel_rfl)) (fun _ _ _ h=>h) (Or.inl ⟨by rfl,?_⟩) ?_ ?_;rotate_left
   ·intro w';go_simp;with_reducible rfl
   rotate_left
   ·simp only [Act.put,qSa,qSb,qSc,i64_w,i32_w];rfl
   refine take_ (i:=14) (N:=some 17) (v:=?_) (a':=?_) #[true,true,true,true,true,true,true,true,true,true,true,true,true,true,true,false,false,false] rfl rfl (take_ofW HT_.1 HW_.1 (by kernel_rfl)) (fun _ _ _ h=>h) (Or.inl ⟨by rfl,?_⟩) hHeld ?_ ?_;rotate_left
   ·rintro w' ⟨s0,s1⟩;go_simp;with_reducible rfl
   rotate_left
   ·simp only [Act.put,qSa,qSb,qSc,i64_w,i32_w];rfl
   refine one_ (i:=15) (N:=some 18) #[true,true,true,true,true,true,true,true,true,true,true,true,true,true,true,true,false,false] rfl rfl (one_of HT_.1 (by kernel_rfl)) (by decide) (fun K hK=>?_);refine goes_ Try.func68 (by kernel_rfl) rfl #[.slice A0_1 l0_1.length c0_1,.int .i64 1000000000] (by rfl) rfl rfl qB89 ?_;with_reducible refine(impl_areSmall.calls _ _ l0_1 1000000000 t246 _ ?side1 ?side2 A6.1).mono ?_
   (case side1=>repeat(first|exact(Kd.C_below HR0_1.1 HB.1)|(with_reducible refine Kd.C_alloc ?_ _)|(with_reducible refine Kd.C_drewN ?_ _)|(with_reducible refine Kd.C_drew ?_)))
   (case side2=>exact HC0_1.1)
   rintro e w10 ⟨rfl,hb⟩;refine⟨_,rfl,?_⟩;have n0_:=qAm (blk_below (g:=gb243) (o:=.cells #[.int .i64 a0_0,.slice A0_1 l0_1.length c0_1] 26 (0,0)) qB110 hb);have n1_:=qAm (below_step qB71 hb);clear BK243 HB;have BK243:=n0_;have HB:=n1_;clear n0_ n1_
   (try clear hb)
   (try clear hb2)
   (try clear hk)
   (try clear hi)
   refine hK.out _ _ ⟨(blk_cell BK243.1 0).trans rfl,(blk_cell BK243.1 1).trans rfl⟩ (fun hHeld=>?_);clear hK K;refine norm_ (a':=?_) ?_ ?_;rotate_left
   ·show Act.put _ (some 18) _=_
    simp only [Act.put,qSa,qSb,qSc,i64_w,i32_w];rfl
   refine pure_ (i:=16) (N:=some 19) (v:=?_) (a':=?_) #[true,true,true,true,true,true,true,true,true,true,true,true,true,true,true,true,true,false] rfl rfl (any_of HT_.1 (by kernel_rfl)) (fun _ _ _ h=>h) (Or.inl ⟨by rfl,?_⟩) ?_ ?_;rotate_left
   ·intro w';go_simp;with_reducible rfl
   rotate_left
   ·simp only [Act.put,qSa,qSb,qSc,i64_w,i32_w];rfl
   refine pure_ (i:=17) (N:=some 2) (v:=?_) (a':=?_) #[true,true,true,true,true,true,true,true,true,true,true,true,true,true,true,true,true,true] rfl rfl (any_of HT_.1 (by kernel_rfl)) (fun _ _ _ h=>h) (Or.inl ⟨by rfl,?_⟩) ?_ ?_;rotate_left
   ·intro w';go_simp;with_reducible rfl
   rotate_left
   ·simp only [Act.put,qSa,qSb,qSc,i64_w,i32_w];rfl
   refine done_ (done_of HT_.1 (by kernel_rfl)) ?_;try go_wp2
   go_ret;exact⟨by first|rfl|(simp [errW_none,errW_some] <;> rfl)|(simp [*,errW_none,errW_some] <;> rfl),by repeat(first|(with_reducible first|exact HB.1|apply below_alloc|apply pw_below_drewN|apply below_drew1|refine below_set ?_ GE243.1)|exact HB.1)⟩
  ·rw [if_neg c5] at H;have c5b0:((l0_1.length:Int)==t245)=false:=beq_eq_false_iff_ne.mpr c5;have c5b1:((l0_1.length:Int) !=t245)=true:=bne_iff_ne.mpr c5;obtain rfl:=Option.some.inj H;go_enter Try.func46,Try.ntmps46;try go_wp2_with (first|((with_reducible refine gate_dst (N:=1) rfl ?_);(try(refine gate_guard (by rfl) ?_;dsimp only));refine box_event ?hg (N:=1) ?hd (cs:=#[.int .i64 a0_0,.slice A0_1 l0_1.length c0_1]) (t:=26) ?hr ?_;(case hd=>rfl);(case hg=>rfl);(case hr=>first|(go_simp;done)|(go_simp;rfl));intro gb243 hg w11 hbox hb;have n0_:=qAm (below_step qB90 hb);have n1_:=qAm (hbox);have n2_:=qAm ((by rw [hg];exact(below_size qB90):w.heap.size≤gb243));have n3_:=qAm ((by rw [hg];exact(below_size qB90):w.heap.size≤gb243));clear HB;have HB:=n0_;have BK243:=n1_;have GW243:=n2_;have GE243:=n3_;clear n0_ n1_ n2_ n3_;clear hb hbox hg))
   have n0_:=qAm (blk_drew BK243.1);have n1_:=qAm (below_drew1 HB.1);clear BK243 HB;have BK243:=n0_;have HB:=n1_;clear n0_ n1_;refine start_ (n:=18) (S:=fun w'=>w'.cell? ⟨gb243,0,none⟩=some (.int .i64 a0_0)∧w'.cell? ⟨gb243,1,none⟩=some (.slice A0_1 l0_1.length c0_1)) (ds:=[]) #[false,false,false,false,false,false,false,false,false,false,false,false,false,false,false,false,false,false] (by kernel_rfl) rfl rfl ⟨(blk_cell BK243.1 0).trans rfl,(blk_cell BK243.1 1).trans rfl⟩ (fun hHeld=>?_);refine with_tabW impl_IsCyclo.tab1 impl_IsCyclo.bits1 (fun HT_ HW_=>?_);generalize w11.drew=w12 at BK243 HB hHeld ⊢;refine pure_ (i:=0) (N:=some 3) (v:=?_) (a':=?_) #[true,false,false,false,false,false,false,false,false,false,false,false,false,false,false,false,false,false] rfl rfl (any_of HT_.1 (by kernel_rfl)) (fun _ _ _ h=>h) (Or.inl ⟨by rfl,?_⟩) ?_ ?_;rotate_left
   ·intro w';go_simp;with_reducible rfl
   rotate_left
   ·simp only [Act.put,qSa,qSb,qSc,i64_w,i32_w];rfl
   refine take_ (i:=1) (N:=some 4) (v:=?_) (a':=?_) #[true,true,false,false,false,false,false,false,false,false,false,false,false,false,false,false,false,false] rfl rfl (take_ofW HT_.1 HW_.1 (by kernel_rfl)) (fun _ _ _ h=>h) (Or.inl ⟨by rfl,?_⟩) hHeld ?_ ?_;rotate_left
   ·rintro w' ⟨s0,s1⟩;go_simp;with_reducible rfl
   rotate_left
   ·simp only [Act.put,qSa,qSb,qSc,i64_w,i32_w];rfl
   refine one_ (i:=2) (N:=some 5) #[true,true,true,false,false,false,false,false,false,false,false,false,false,false,false,false,false,false] rfl rfl (one_of HT_.1 (by kernel_rfl)) (by decide) (fun K hK=>?_);refine goes_ Try.func71 (by kernel_rfl) rfl #[.int .i64 a0_0] (by rfl) rfl rfl qB89 ?_;with_reducible refine(impl_isOrder.calls a0_0 true _ A2.1).mono ?_
   rintro e w' ⟨rfl,⟨nd,rfl⟩⟩;refine⟨_,rfl,?_⟩;refine hK.out _ _ ⟨(blk_cell BK243.1 0).trans rfl,(blk_cell BK243.1 1).trans rfl⟩ (fun hHeld=>?_);clear hK K;refine norm_ (a':=?_) ?_ ?_;rotate_left
   ·show Act.put _ (some 5) _=_
    simp only [Act.put,qSa,qSb,qSc,i64_w,i32_w];rfl
   refine pure_ (i:=3) (N:=some 6) (v:=?_) (a':=?_) #[true,true,true,true,false,false,false,false,false,false,false,false,false,false,false,false,false,false] rfl rfl (any_of HT_.1 (by kernel_rfl)) (fun _ _ _ h=>h) (Or.inl ⟨by rfl,?_⟩) ?_ ?_;rotate_left
   ·intro w';go_simp;with_reducible rfl
   rotate_left
   ·simp only [Act.put,qSa,qSb,qSc,i64_w,i32_w];rfl
   refine pure_ (i:=4) (N:=some 7) (v:=?_) (a':=?_) #[true,true,true,true,true,false,false,false,false,false,false,false,false,false,false,false,false,false] rfl rfl (any_of HT_.1 (by kernel_rfl)) (fun _ _ _ h=>h) (Or.inl ⟨by rfl,?_⟩) ?_ ?_;rotate_left
   ·intro w';go_simp;with_reducible rfl
   rotate_left
   ·simp only [Act.put,qSa,qSb,qSc,i64_w,i32_w];rfl
   refine pure_ (i:=7) (N:=some 10) (v:=?_) (a':=?_) #[true,true,true,true,true,false,false,true,false,false,false,false,false,false,false,false,false,false] rfl rfl (any_of HT_.1 (by kernel_rfl)) (fun _ _ _ h=>h) (Or.inl ⟨by rfl,?_⟩) ?_ ?_;rotate_left
   ·intro w';go_simp;with_reducible rfl
   rotate_left
   ·simp only [Act.put,qSa,qSb,qSc,i64_w,i32_w];rfl
   refine take_ (i:=5) (N:=some 8) (v:=?_) (a':=?_) #[true,true,true,true,true,true,false,true,false,false,false,false,false,false,false,false,false,false] rfl rfl (take_ofW HT_.1 HW_.1 (by kernel_rfl)) (fun _ _ _ h=>h) (Or.inl ⟨by rfl,?_⟩) hHeld ?_ ?_;rotate_left
   ·rintro w' ⟨s0,s1⟩;go_simp;with_reducible rfl
   rotate_left
   ·simp only [Act.put,qSa,qSb,qSc,i64_w,i32_w];rfl
   refine pure_ (i:=6) (N:=some 9) (v:=?_) (a':=?_) #[true,true,true,true,true,true,true,true,false,false,false,false,false,false,false,false,false,false] rfl rfl (any_of HT_.1 (by kernel_rfl)) (fun _ _ _ h=>h) (Or.inl ⟨by rfl,?_⟩) ?_ ?_;rotate_left
   ·intro w';go_simp;with_reducible rfl
   rotate_left
   ·simp only [Act.put,qSa,qSb,qSc,i64_w,i32_w];rfl
   refine take_ (i:=8) (N:=some 11) (v:=?_) (a':=?_) #[true,true,true,true,true,true,true,true,true,false,false,false,false,false,false,false,false,false] rfl rfl (take_ofW HT_.1 HW_.1 (by kernel_rfl)) (fun _ _ _ h=>h) (Or.inl ⟨by rfl,?_⟩) hHeld ?_ ?_;rotate_left
   ·rintro w' ⟨s0,s1⟩;go_simp;with_reducible rfl
   rotate_left
   ·simp only [Act.put,qSa,qSb,qSc,i64_w,i32_w];rfl
   refine one_ (i:=9) (N:=some 12) #[true,true,true,true,true,true,true,true,true,true,false,false,false,false,false,false,false,false] rfl rfl (one_of HT_.1 (by kernel_rfl)) (by decide) (fun K hK=>?_);refine goes_ Try.func72 (by kernel_rfl) rfl #[.int .i64 a0_0] (by rfl) rfl rfl qB89 ?_;with_reducible refine(impl_totient.calls k a0_0 t245 _ A4.1).mono ?_
   rintro e w13 ⟨rfl,hb⟩;refine⟨_,rfl,?_⟩;have n0_:=qAm (blk_below (g:=gb243) (o:=.cells #[.int .i64 a0_0,.slice A0_1 l0_1.length c0_1] 26 (0,0)) qB110 hb);have n1_:=qAm (below_step qB71 hb);clear BK243 HB;have BK243:=n0_;have HB:=n1_;clear n0_ n1_
   (try clear hb)
   (try clear hb2)
   (try clear hk)
   (try clear hi)
   refine hK.out _ _ ⟨(blk_cell BK243.1 0).trans rfl,(blk_cell BK243.1 1).trans rfl⟩ (fun hHeld=>?_);clear hK K;refine norm_ (a':=?_) ?_ ?_;rotate_left
   ·show Act.put _ (some 12) _=_
    simp only [Act.put,qSa,qSb,qSc,i64_w,i32_w];rfl
   refine pure_ (i:=10) (N:=some 13) (v:=?_) (a':=?_) #[true,true,true,true,true,true,true,true,true,true,true,false,false,false,false,false,false,false] rfl rfl (any_of HT_.1 (by kernel_rfl)) (fun _ _ _ h=>h) (Or.inl ⟨by rfl,?_⟩) ?_ ?_;rotate_left
   ·intro w';go_simp;with_reducible rfl
   rotate_left
   ·simp only [Act.put,qSa,qSb,qSc,i64_w,i32_w];rfl
   refine pure_ (i:=11) (N:=some 14) (v:=?_) (a':=?_) #[true,true,true,true,true,true,true,true,true,true,true,true,false,false,false,false,false,false] rfl rfl (any_of HT_.1 (by kernel_rfl)) (fun _ _ _ h=>h) (Or.inl ⟨by rfl,?_⟩) ?_ ?_;rotate_left
   ·intro w';go_simp;with_reducible rfl
   rotate_left
   ·simp only [Act.put,qSa,qSb,qSc,i64_w,i32_w];rfl
   refine pure_ (i:=12) (N:=some 15) (v:=?_) (a':=?_) #[true,true,true,true,true,true,true,true,true,true,true,true,true,false,false,false,false,false] rfl rfl (any_of HT_.1 (by kernel_rfl)) (fun _ _ _ h=>h) (Or.inl ⟨by rfl,?_⟩) ?_ ?_;rotate_left
   ·intro w';go_simp;with_reducible rfl
   rotate_left
   ·simp only [Act.put,qSa,qSb,qSc,i64_w,i32_w];rfl
   refine pure_ (i:=13) (N:=some 16) (v:=undef) (a':=?_) #[true,true,true,true,true,true,true,true,true,true,true,true,true,true,false,false,false,false] rfl rfl (any_of HT_.1 (by kernel_rfl)) (fun _ _ _ h=>h) (Or.inr ⟨by rfl,rfl⟩) ?_ ?_;rotate_left
   ·simp only [Act.put,qSa,qSb,qSc,i64_w,i32_w];rfl
   refine pure_ (i:=14) (N:=some 17) (v:=undef) (a':=?_) #[true,true,true,true,true,true,true,true,true,true,true,true,true,true,true,false,false,false] rfl rfl (any_of HT_.1 (by kernel_rfl)) (fun _ _ _ h=>h) (Or.inr ⟨by rfl,rfl⟩) ?_ ?_;rotate_left
   ·simp only [Act.put,qSa,qSb,qSc,i64_w,i32_w];rfl
   refine pure_ (i:=15) (N:=some 18) (v:=undef) (a':=?_) #[true,true,true,true,true,true,true,true,true,true,true,true,true,true,true,true,false,false] rfl rfl (any_of HT_.1 (by kernel_rfl)) (fun _ _ _ h=>h) (Or.inr ⟨by rfl,rfl⟩) ?_ ?_;rotate_left
   ·simp only [Act.put,qSa,qSb,qSc,i64_w,i32_w];rfl
   refine pure_ (i:=16) (N:=some 19) (v:=?_) (a':=?_) #[true,true,true,true,true,true,true,true,true,true,true,true,true,true,true,true,true,false] rfl rfl (any_of HT_.1 (by kernel_rfl)) (fun _ _ _ h=>h) (Or.inl ⟨by rfl,?_⟩) ?_ ?_;rotate_left
   ·intro w';go_simp;with_reducible rfl
   rotate_left
   ·simp only [Act.put,qSa,qSb,qSc,i64_w,i32_w];rfl
   refine pure_ (i:=17) (N:=some 2) (v:=?_) (a':=?_) #[true,true,true,true,true,true,true,true,true,true,true,true,true,true,true,true,true,true] rfl rfl (any_of HT_.1 (by kernel_rfl)) (fun _ _ _ h=>h) (Or.inl ⟨by rfl,?_⟩) ?_ ?_;rotate_left
   ·intro w';go_simp;with_reducible rfl
   rotate_left
   ·simp only [Act.put,qSa,qSb,qSc,i64_w,i32_w];rfl
   refine done_ (done_of HT_.1 (by kernel_rfl)) ?_;try go_wp2
   go_ret;exact⟨by first|rfl|(simp [errW_none,errW_some] <;> rfl)|(simp [*,errW_none,errW_some] <;> rfl),by repeat(first|(with_reducible first|exact HB.1|apply below_alloc|apply pw_below_drewN|apply below_drew1|refine below_set ?_ GE243.1)|exact HB.1)⟩
 ·replace c3:=Bool.eq_false_iff.mpr c3;subst c3;have H1:(some false)=some r:=by rw [if_neg (show ¬(false=true) by decide)] at H;exact H
  clear H;have H:=H1;clear H1;obtain rfl:=Option.some.inj H;go_enter Try.func46,Try.ntmps46;try go_wp2_with (first|((with_reducible refine gate_dst (N:=1) rfl ?_);(try(refine gate_guard (by rfl) ?_;dsimp only));refine box_event ?hg (N:=1) ?hd (cs:=#[.int .i64 a0_0,.slice A0_1 l0_1.length c0_1]) (t:=26) ?hr ?_;(case hd=>rfl);(case hg=>rfl);(case hr=>first|(go_simp;done)|(go_simp;rfl));intro gb243 hg w14 hbox hb;have n0_:=qAm (below_step qB90 hb);have n1_:=qAm (hbox);have n2_:=qAm ((by rw [hg];exact(below_size qB90):w.heap.size≤gb243));have n3_:=qAm ((by rw [hg];exact(below_size qB90):w.heap.size≤gb243));clear HB;have HB:=n0_;have BK243:=n1_;have GW243:=n2_;have GE243:=n3_;clear n0_ n1_ n2_ n3_;clear hb hbox hg))
  have n0_:=qAm (blk_drew BK243.1);have n1_:=qAm (below_drew1 HB.1);clear BK243 HB;have BK243:=n0_;have HB:=n1_;clear n0_ n1_;refine start_ (n:=18) (S:=fun w'=>w'.cell? ⟨gb243,0,none⟩=some (.int .i64 a0_0)∧w'.cell? ⟨gb243,1,none⟩=some (.slice A0_1 l0_1.length c0_1)) (ds:=[]) #[false,false,false,false,false,false,false,false,false,false,false,false,false,false,false,false,false,false] (by kernel_rfl) rfl rfl ⟨(blk_cell BK243.1 0).trans rfl,(blk_cell BK243.1 1).trans rfl⟩ (fun hHeld=>?_);refine with_tabW impl_IsCyclo.tab1 impl_IsCyclo.bits1 (fun HT_ HW_=>?_);generalize w14.drew=w15 at BK243 HB hHeld ⊢;refine pure_ (i:=0) (N:=some 3) (v:=?_) (a':=?_) #[true,false,false,false,false,false,false,false,false,false,false,false,false,false,false,false,false,false] rfl rfl (any_of HT_.1 (by kernel_rfl)) (fun _ _ _ h=>h) (Or.inl ⟨by rfl,?_⟩) ?_ ?_;rotate_left
  ·intro w';go_simp;with_reducible rfl
  rotate_left
  ·simp only [Act.put,qSa,qSb,qSc,i64_w,i32_w];rfl
  refine take_ (i:=1) (N:=some 4) (v:=?_) (a':=?_) #[true,true,false,false,false,false,false,false,false,false,false,false,false,false,false,false,false,false] rfl rfl (take_ofW HT_.1 HW_.1 (by kernel_rfl)) (fun _ _ _ h=>h) (Or.inl ⟨by rfl,?_⟩) hHeld ?_ ?_;rotate_left
  ·rintro w' ⟨s0,s1⟩;go_simp;with_reducible rfl
  rotate_left
  ·simp only [Act.put,qSa,qSb,qSc,i64_w,i32_w];rfl
  refine one_ (i:=2) (N:=some 5) #[true,true,true,false,false,false,false,false,false,false,false,false,false,false,false,false,false,false] rfl rfl (one_of HT_.1 (by kernel_rfl)) (by decide) (fun K hK=>?_);refine goes_ Try.func71 (by kernel_rfl) rfl #[.int .i64 a0_0] (by rfl) rfl rfl qB89 ?_;with_reducible refine(impl_isOrder.calls a0_0 false _ A2.1).mono ?_
  rintro e w' ⟨rfl,⟨nd,rfl⟩⟩;refine⟨_,rfl,?_⟩;refine hK.out _ _ ⟨(blk_cell BK243.1 0).trans rfl,(blk_cell BK243.1 1).trans rfl⟩ (fun hHeld=>?_);clear hK K;refine norm_ (a':=?_) ?_ ?_;rotate_left
  ·show Act.put _ (some 5) _=_
   simp only [Act.put,qSa,qSb,qSc,i64_w,i32_w];rfl
  refine pure_ (i:=3) (N:=some 6) (v:=?_) (a':=?_) #[true,true,true,true,false,false,false,false,false,false,false,false,false,false,false,false,false,false] rfl rfl (any_of HT_.1 (by kernel_rfl)) (fun _ _ _ h=>h) (Or.inl ⟨by rfl,?_⟩) ?_ ?_;rotate_left
  ·intro w';go_simp;with_reducible rfl
  rotate_left
  ·simp only [Act.put,qSa,qSb,qSc,i64_w,i32_w];rfl
  refine pure_ (i:=4) (N:=some 7) (v:=undef) (a':=?_) #[true,true,true,true,true,false,false,false,false,false,false,false,false,false,false,false,false,false] rfl rfl (any_of HT_.1 (by kernel_rfl)) (fun _ _ _ h=>h) (Or.inr ⟨by rfl,rfl⟩) ?_ ?_;rotate_left
  ·simp only [Act.put,qSa,qSb,qSc,i64_w,i32_w];rfl
  refine pure_ (i:=5) (N:=some 8) (v:=undef) (a':=?_) #[true,true,true,true,true,true,false,false,false,false,false,false,false,false,false,false,false,false] rfl rfl (any_of HT_.1 (by kernel_rfl)) (fun _ _ _ h=>h) (Or.inr ⟨by rfl,rfl⟩) ?_ ?_;rotate_left
  ·simp only [Act.put,qSa,qSb,qSc,i64_w,i32_w];rfl
  refine pure_ (i:=6) (N:=some 9) (v:=undef) (a':=?_) #[true,true,true,true,true,true,true,false,false,false,false,false,false,false,false,false,false,false] rfl rfl (any_of HT_.1 (by kernel_rfl)) (fun _ _ _ h=>h) (Or.inr ⟨by rfl,rfl⟩) ?_ ?_;rotate_left
  ·simp only [Act.put,qSa,qSb,qSc,i64_w,i32_w];rfl
  refine pure_ (i:=7) (N:=some 10) (v:=undef) (a':=?_) #[true,true,true,true,true,true,true,true,false,false,false,false,false,false,false,false,false,false] rfl rfl (any_of HT_.1 (by kernel_rfl)) (fun _ _ _ h=>h) (Or.inr ⟨by rfl,rfl⟩) ?_ ?_;rotate_left
  ·simp only [Act.put,qSa,qSb,qSc,i64_w,i32_w];rfl
  refine pure_ (i:=8) (N:=some 11) (v:=undef) (a':=?_) #[true,true,true,true,true,true,true,true,true,false,false,false,false,false,false,false,false,false] rfl rfl (any_of HT_.1 (by kernel_rfl)) (fun _ _ _ h=>h) (Or.inr ⟨by rfl,rfl⟩) ?_ ?_;rotate_left
  ·simp only [Act.put,qSa,qSb,qSc,i64_w,i32_w];rfl
  refine pure_ (i:=9) (N:=some 12) (v:=undef) (a':=?_) #[true,true,true,true,true,true,true,true,true,true,false,false,false,false,false,false,false,false] rfl rfl (any_of HT_.1 (by kernel_rfl)) (fun _ _ _ h=>h) (Or.inr ⟨by rfl,rfl⟩) ?_ ?_;rotate_left
  ·simp only [Act.put,qSa,qSb,qSc,i64_w,i32_w];rfl
  refine pure_ (i:=10) (N:=some 13) (v:=undef) (a':=?_) #[true,true,true,true,true,true,true,true,true,true,true,false,false,false,false,false,false,false] rfl rfl (any_of HT_.1 (by kernel_rfl)) (fun _ _ _ h=>h) (Or.inr ⟨by rfl,rfl⟩) ?_ ?_;rotate_left
  ·simp only [Act.put,qSa,qSb,qSc,i64_w,i32_w];rfl
  refine pure_ (i:=11) (N:=some 14) (v:=?_) (a':=?_) #[true,true,true,true,true,true,true,true,true,true,true,true,false,false,false,false,false,false] rfl rfl (any_of HT_.1 (by kernel_rfl)) (fun _ _ _ h=>h) (Or.inl ⟨by rfl,?_⟩) ?_ ?_;rotate_left
  ·intro w';go_simp;with_reducible rfl
  rotate_left
  ·simp only [Act.put,qSa,qSb,qSc,i64_w,i32_w];rfl
  refine pure_ (i:=12) (N:=some 15) (v:=?_) (a':=?_) #[true,true,true,true,true,true,true,true,true,true,true,true,true,false,false,false,false,false] rfl rfl (any_of HT_.1 (by kernel_rfl)) (fun _ _ _ h=>h) (Or.inl ⟨by rfl,?_⟩) ?_ ?_;rotate_left
  ·intro w';go_simp;with_reducible rfl
  rotate_left
  ·simp only [Act.put,qSa,qSb,qSc,i64_w,i32_w];rfl
  refine pure_ (i:=13) (N:=some 16) (v:=undef) (a':=?_) #[true,true,true,true,true,true,true,true,true,true,true,true,true,true,false,false,false,false] rfl rfl (any_of HT_.1 (by kernel_rfl)) (fun _ _ _ h=>h) (Or.inr ⟨by rfl,rfl⟩) ?_ ?_;rotate_left
  ·simp only [Act.put,qSa,qSb,qSc,i64_w,i32_w];rfl
  refine pure_ (i:=14) (N:=some 17) (v:=undef) (a':=?_) #[true,true,true,true,true,true,true,true,true,true,true,true,true,true,true,false,false,false] rfl rfl (any_of HT_.1 (by kernel_rfl)) (fun _ _ _ h=>h) (Or.inr ⟨by rfl,rfl⟩) ?_ ?_;rotate_left
  ·simp only [Act.put,qSa,qSb,qSc,i64_w,i32_w];rfl
  refine pure_ (i:=15) (N:=some 18) (v:=undef) (a':=?_) #[true,true,true,true,true,true,true,true,true,true,true,true,true,true,true,true,false,false] rfl rfl (any_of HT_.1 (by kernel_rfl)) (fun _ _ _ h=>h) (Or.inr ⟨by rfl,rfl⟩) ?_ ?_;rotate_left
  ·simp only [Act.put,qSa,qSb,qSc,i64_w,i32_w];rfl
  refine pure_ (i:=16) (N:=some 19) (v:=?_) (a':=?_) #[true,true,true,true,true,true,true,true,true,true,true,true,true,true,true,true,true,false] rfl rfl (any_of HT_.1 (by kernel_rfl)) (fun _ _ _ h=>h) (Or.inl ⟨by rfl,?_⟩) ?_ ?_;rotate_left
  ·intro w';go_simp;with_reducible rfl
  rotate_left
  ·simp only [Act.put,qSa,qSb,qSc,i64_w,i32_w];rfl
  refine pure_ (i:=17) (N:=some 2) (v:=?_) (a':=?_) #[true,true,true,true,true,true,true,true,true,true,true,true,true,true,true,true,true,true] rfl rfl (any_of HT_.1 (by kernel_rfl)) (fun _ _ _ h=>h) (Or.inl ⟨by rfl,?_⟩) ?_ ?_;rotate_left
  ·intro w';go_simp;with_reducible rfl
  rotate_left
  ·simp only [Act.put,qSa,qSb,qSc,i64_w,i32_w];rfl
  refine done_ (done_of HT_.1 (by kernel_rfl)) ?_;try go_wp2
  go_ret;exact⟨by first|rfl|(simp [errW_none,errW_some] <;> rfl)|(simp [*,errW_none,errW_some] <;> rfl),by repeat(first|(with_reducible first|exact HB.1|apply below_alloc|apply pw_below_drewN|apply below_drew1|refine below_set ?_ GE243.1)|exact HB.1)⟩

/-! ### impl_twoCode: function 39 -/
def impl_twoCode.j0:Nat→Bool→Int→List Int→Int→List Int→Option (Int)
 |0,_,_,_,_,_=>none
 |k+1,x5,x248000,x248001,x249000,x249001=>if x5=true then (some 1) else (if x248000=x249000 then (some 0) else (some 2))
def impl_twoCode.f (k:Nat) (a0_0:Int) (l0_1:List Int) (a1_0:Int) (l1_1:List Int):Option (Int):=(impl_IsCyclo.f k a0_0 l0_1).bind fun t249=>(if t249=true then ((impl_IsCyclo.f k a1_0 l1_1).bind fun t250=>(impl_twoCode.j0 k (!t250) a0_0 l0_1 a1_0 l1_1)) else (impl_twoCode.j0 k true a0_0 l0_1 a1_0 l1_1))
theorem impl_twoCode.mono_l:∀k,(∀y0 y1 y2 y3 y4,LeO (impl_twoCode.j0 k y0 y1 y2 y3 y4) (impl_twoCode.j0 (k+1) y0 y1 y2 y3 y4))
 |0=>fun _ _ _ _ _ r h=>by simp [impl_twoCode.j0] at h
 |k+1=>by
  have ih0:=impl_twoCode.mono_l k
  ·intro y0 y1 y2 y3 y4;unfold impl_twoCode.j0;repeat' first
   |(with_reducible exact ih0 _ _ _ _ _)
   |(with_reducible exact impl_IsCyclo.mono _ _ _)
   |(with_reducible exact LeO.refl _)
   |(with_reducible exact LeO.none _)
   |(with_reducible refine LeO.ite ?_ ?_)
   |(with_reducible refine LeO.bind ?_ (fun _=>?_))
   |exact ih0 _ _ _ _ _
   |exact impl_IsCyclo.mono _ _ _
   |exact LeO.none _
   |refine LeO.ite ?_ ?_
   |refine LeO.bind ?_ (fun _=>?_)
theorem impl_twoCode.mono:∀a0 a1 a2 a3 k,LeO (impl_twoCode.f k a0 a1 a2 a3) (impl_twoCode.f (k+1) a0 a1 a2 a3):=by
 intro a0 a1 a2 a3 k;have ih0:=impl_twoCode.mono_l k;unfold impl_twoCode.f;repeat' first
   |(with_reducible exact ih0 _ _ _ _ _)
   |(with_reducible exact impl_IsCyclo.mono _ _ _)
   |(with_reducible exact LeO.refl _)
   |(with_reducible exact LeO.none _)
   |(with_reducible refine LeO.ite ?_ ?_)
   |(with_reducible refine LeO.bind ?_ (fun _=>?_))
   |exact ih0 _ _ _ _ _
   |exact impl_IsCyclo.mono _ _ _
   |exact LeO.none _
   |refine LeO.ite ?_ ?_
   |refine LeO.bind ?_ (fun _=>?_)
set_option maxHeartbeats 8000000 in
set_option maxRecDepth 100000 in
theorem impl_twoCode.calls (k:Nat) (a0_0:Int) (A0_1:Option Addr) (c0_1:Nat) (l0_1:List Int) (a1_0:Int) (A1_1:Option Addr) (c1_1:Nat) (l1_1:List Int) (r:Int) (w:World) (hr0_1:Kd.C (Kd.int .i64) w A0_1 l0_1.length l0_1) (hc0_1:l0_1.length≤c0_1) (hr1_1:Kd.C (Kd.int .i64) w A1_1 l1_1.length l1_1) (hc1_1:l1_1.length≤c1_1) (h:impl_twoCode.f k a0_0 l0_1 a1_0 l1_1=some r):
  Calls Try.prog 39 #[.agg #[.int .i64 a0_0,.slice A0_1 l0_1.length c0_1],.agg #[.int .i64 a1_0,.slice A1_1 l1_1.length c1_1]] w fun e w'=>e=.returned (.int .i64 r)∧Below w.heap.size w w':=by
 have hu26:=Try.underlying26;have HR0_1:=qAm hr0_1;have HC0_1:=qAm hc0_1;clear hr0_1 hc0_1;have HR1_1:=qAm hr1_1;have HC1_1:=qAm hc1_1;clear hr1_1 hc1_1;have HB:=qAm (Below.refl w.heap.size w);have H:((impl_IsCyclo.f k a0_0 l0_1).bind fun t249=>(if t249=true then ((impl_IsCyclo.f k a1_0 l1_1).bind fun t250=>(impl_twoCode.j0 k (!t250) a0_0 l0_1 a1_0 l1_1)) else (impl_twoCode.j0 k true a0_0 l0_1 a1_0 l1_1)))=some r:=h;clear h;have HC3:=qAm H;clear H;go_enter Try.func39,Try.ntmps39;go_upto_region 1 with (first|((with_reducible refine gate_dst (N:=2) rfl ?_);refine box_event ?hg (N:=2) ?hd (cs:=#[.int .i64 a0_0,.slice A0_1 l0_1.length c0_1]) (t:=26) ?hr ?_;(case hd=>rfl);(case hg=>rfl);(case hr=>first|(go_simp;done)|(go_simp;rfl));intro gb247 hg w4 hbox hb;have n0_:=qAm (below_step qB90 hb);have n1_:=qAm (hbox);have n2_:=qAm ((by rw [hg];exact(below_size qB90):w.heap.size≤gb247));have n3_:=qAm ((by rw [hg];exact(below_size qB90):w.heap.size≤gb247));clear HB;have HB:=n0_;have BK247:=n1_;have GW247:=n2_;have GE247:=n3_;clear n0_ n1_ n2_ n3_;clear hb hbox hg)|((with_reducible refine gate_dst (N:=3) rfl ?_);refine box_event ?hg (N:=3) ?hd (cs:=#[.int .i64 a1_0,.slice A1_1 l1_1.length c1_1]) (t:=26) ?hr ?_;(case hd=>rfl);(case hg=>rfl);(case hr=>first|(go_simp;done)|(go_simp;rfl));intro gb248 hg w5 hbox hb;have n0_:=qAm (blk_below (g:=gb247) (o:=.cells #[.int .i64 a0_0,.slice A0_1 l0_1.length c0_1] 26 (0,0)) qB111 hb);have n1_:=qAm (below_step qB72 hb);have n2_:=qAm (hbox);have n3_:=qAm ((by rw [hg];exact(below_size qB72):w.heap.size≤gb248));have n4_:=qAm ((by rw [hg];exact(below_size qB72):w.heap.size≤gb248));have n5_:=qAm ((by rw [hg];exact Nat.ne_of_lt (blk_lt (g:=gb247) (o:=.cells #[.int .i64 a0_0,.slice A0_1 l0_1.length c0_1] 26 (0,0)) qB111):gb247≠gb248));have n6_:=qAm ((by rw [hg];exact Nat.ne_of_gt (blk_lt (g:=gb247) (o:=.cells #[.int .i64 a0_0,.slice A0_1 l0_1.length c0_1] 26 (0,0)) qB111):gb248≠gb247));clear BK247;clear HB;have BK247:=n0_;have HB:=n1_;have BK248:=n2_;have GW248:=n3_;have GE248:=n4_;have NB247_248:=n5_;have NB248_247:=n6_;clear n0_ n1_ n2_ n3_ n4_ n5_ n6_;clear hb hbox hg))
 (try simp only [Act.put,qSa,qSb,qSc])
 go_cut [5] (fun v5 wc=>∃(kq:Nat) (x5_2:Bool),v5=.bool x5_2∧Aside0 (impl_twoCode.j0 kq x5_2 a0_0 l0_1 a1_0 l1_1=some r)∧Aside0 (kq≤k)∧Aside0 (wc.heap[gb247]? =some (.cells #[.int .i64 a0_0,(.slice A0_1 l0_1.length c0_1)] 26 (0,0)))∧Aside0 (wc.heap[gb248]? =some (.cells #[.int .i64 a1_0,(.slice A1_1 l1_1.length c1_1)] 26 (0,0)))∧Aside0 (Below w.heap.size w wc))
 case first=>
  have H:=HC3.1;clear HC3;replace H:=qOb H;obtain⟨t249,A60,H⟩:=H;replace H:(if t249=true then ((impl_IsCyclo.f k a1_0 l1_1).bind fun t250=>(impl_twoCode.j0 k (!t250) a0_0 l0_1 a1_0 l1_1)) else (impl_twoCode.j0 k true a0_0 l0_1 a1_0 l1_1))=some r:=H;have A6:=qAm A60;clear A60
  by_cases c7:t249=true
  ·subst c7;have H1:((impl_IsCyclo.f k a1_0 l1_1).bind fun t250=>(impl_twoCode.j0 k (!t250) a0_0 l0_1 a1_0 l1_1))=some r:=by rw [if_pos rfl] at H;exact H
   clear H;have H:=H1;clear H1;replace H:=qOb H;obtain⟨t250,A80,H⟩:=H;replace H:(impl_twoCode.j0 k (!t250) a0_0 l0_1 a1_0 l1_1)=some r:=H;have A8:=qAm A80;clear A80;have H':=qAm H;clear H;have hnb9:=NB247_248.1;have hnc9:=NB248_247.1;have hcz10_0:w5.cell? ⟨gb247,0,none⟩=some (.int .i64 a0_0):=(blk_cell BK247.1 0).trans rfl;have hcz10_1:w5.cell? ⟨gb247,1,none⟩=some (.slice A0_1 l0_1.length c0_1):=(blk_cell BK247.1 1).trans rfl;have hfz10_0:=blk_frozen BK247.1 0;have hfz10_1:=blk_frozen BK247.1 1;go_wp2_with (first|((with_reducible refine gate_callee (f:=46) rfl ?_);refine goesL_ (some 7) rfl rfl Try.func46 (by kernel_rfl) rfl #[.agg #[.int .i64 a0_0,.slice A0_1 l0_1.length c0_1]] rfl qB89 ?_;(with_reducible refine(impl_IsCyclo.calls k a0_0 _ _ l0_1 true _ ?side1 ?side2 A6.1).mono ?_);(case side1=>repeat(first|exact(Kd.C_below HR0_1.1 HB.1)|(with_reducible refine Kd.C_alloc ?_ _)|(with_reducible refine Kd.C_drewN ?_ _)|(with_reducible refine Kd.C_drew ?_)));(case side2=>exact HC0_1.1);rintro e w11 ⟨rfl,hb⟩;refine⟨_,rfl,?_⟩;have n0_:=qAm (blk_below (g:=gb247) (o:=.cells #[.int .i64 a0_0,.slice A0_1 l0_1.length c0_1] 26 (0,0)) qB111 hb);have n1_:=qAm (blk_below (g:=gb248) (o:=.cells #[.int .i64 a1_0,.slice A1_1 l1_1.length c1_1] 26 (0,0)) qB112 hb);have n2_:=qAm (below_step qB59 hb);clear BK247;clear BK248;clear HB;have BK247:=n0_;have BK248:=n1_;have HB:=n2_;clear n0_ n1_ n2_;(try clear hb);(try clear hb2);(try clear hk);(try clear hi);have hcz12_0:w11.cell? ⟨gb248,0,none⟩=some (.int .i64 a1_0):=(blk_cell BK248.1 0).trans rfl;have hcz12_1:w11.cell? ⟨gb248,1,none⟩=some (.slice A1_1 l1_1.length c1_1):=(blk_cell BK248.1 1).trans rfl;have hfz12_0:=blk_frozen BK248.1 0;have hfz12_1:=blk_frozen BK248.1 1)|(go_at_call 46;(with_reducible refine(impl_IsCyclo.calls k a1_0 _ _ l1_1 t250 _ ?side1 ?side2 A8.1).mono ?_);(case side1=>repeat(first|exact(Kd.C_below HR1_1.1 HB.1)|(with_reducible refine Kd.C_alloc ?_ _)|(with_reducible refine Kd.C_drewN ?_ _)|(with_reducible refine Kd.C_drew ?_)));(case side2=>exact HC1_1.1);rintro e w13 ⟨rfl,hb⟩;have n0_:=qAm (blk_below (g:=gb247) (o:=.cells #[.int .i64 a0_0,.slice A0_1 l0_1.length c0_1] 26 (0,0)) qB111 hb);have n1_:=qAm (blk_below (g:=gb248) (o:=.cells #[.int .i64 a1_0,.slice A1_1 l1_1.length c1_1] 26 (0,0)) qB112 hb);have n2_:=qAm (below_step qB59 hb);clear BK247;clear BK248;clear HB;have BK247:=n0_;have BK248:=n1_;have HB:=n2_;clear n0_ n1_ n2_;(try clear hb);(try clear hb2);(try clear hk);(try clear hi)));go_meet
   case rel=>exact⟨_,(!t250),qB163,H',⟨by first|omega|exact Nat.le_refl _⟩,⟨by (with_reducible repeat(first|refine blk_drewN ?_ _|refine blk_drew ?_|refine blk_alloc ?_ _));exact BK247.1⟩,⟨by (with_reducible repeat(first|refine blk_drewN ?_ _|refine blk_drew ?_|refine blk_alloc ?_ _));exact BK248.1⟩,⟨by repeat(first|(with_reducible first|exact HB.1|apply below_alloc|apply pw_below_drewN|apply below_drew1|refine below_set ?_ GE247.1|refine below_set ?_ GE248.1)|exact HB.1)⟩⟩
  ·replace c7:=Bool.eq_false_iff.mpr c7;subst c7;have H1:(impl_twoCode.j0 k true a0_0 l0_1 a1_0 l1_1)=some r:=by rw [if_neg (show ¬(false=true) by decide)] at H;exact H
   clear H;have H:=H1;clear H1;have H':=qAm H;clear H;have hnb14:=NB247_248.1;have hnc14:=NB248_247.1;have hcz15_0:w5.cell? ⟨gb247,0,none⟩=some (.int .i64 a0_0):=(blk_cell BK247.1 0).trans rfl;have hcz15_1:w5.cell? ⟨gb247,1,none⟩=some (.slice A0_1 l0_1.length c0_1):=(blk_cell BK247.1 1).trans rfl;have hfz15_0:=blk_frozen BK247.1 0;have hfz15_1:=blk_frozen BK247.1 1;go_wp2_with (first|((with_reducible refine gate_callee (f:=46) rfl ?_);refine goesL_ (some 7) rfl rfl Try.func46 (by kernel_rfl) rfl #[.agg #[.int .i64 a0_0,.slice A0_1 l0_1.length c0_1]] rfl qB89 ?_;(with_reducible refine(impl_IsCyclo.calls k a0_0 _ _ l0_1 false _ ?side1 ?side2 A6.1).mono ?_);(case side1=>repeat(first|exact(Kd.C_below HR0_1.1 HB.1)|(with_reducible refine Kd.C_alloc ?_ _)|(with_reducible refine Kd.C_drewN ?_ _)|(with_reducible refine Kd.C_drew ?_)));(case side2=>exact HC0_1.1);rintro e w16 ⟨rfl,hb⟩;refine⟨_,rfl,?_⟩;have n0_:=qAm (blk_below (g:=gb247) (o:=.cells #[.int .i64 a0_0,.slice A0_1 l0_1.length c0_1] 26 (0,0)) qB111 hb);have n1_:=qAm (blk_below (g:=gb248) (o:=.cells #[.int .i64 a1_0,.slice A1_1 l1_1.length c1_1] 26 (0,0)) qB112 hb);have n2_:=qAm (below_step qB59 hb);clear BK247;clear BK248;clear HB;have BK247:=n0_;have BK248:=n1_;have HB:=n2_;clear n0_ n1_ n2_;(try clear hb);(try clear hb2);(try clear hk);(try clear hi)));go_meet
   case rel=>exact⟨_,(true),qB163,H',⟨by first|omega|exact Nat.le_refl _⟩,⟨by (with_reducible repeat(first|refine blk_drewN ?_ _|refine blk_drew ?_|refine blk_alloc ?_ _));exact BK247.1⟩,⟨by (with_reducible repeat(first|refine blk_drewN ?_ _|refine blk_drew ?_|refine blk_alloc ?_ _));exact BK248.1⟩,⟨by repeat(first|(with_reducible first|exact HB.1|apply below_alloc|apply pw_below_drewN|apply below_drew1|refine below_set ?_ GE247.1|refine below_set ?_ GE248.1)|exact HB.1)⟩⟩
 case rest=>
  clear HC3;try clear c1
  try clear p2
  try clear c3
  try clear c4
  try clear c7
  try clear c9
  try clear c14
  try clear hcz10_0
  try clear hcz10_1
  try clear hcz12_0
  try clear hcz12_1
  try clear hcz15_0
  try clear hcz15_1
  try clear hfz10_0
  try clear hfz10_1
  try clear hfz12_0
  try clear hfz12_1
  try clear hfz15_0
  try clear hfz15_1
  obtain⟨kq,x5_2,rfl,HA,HJ2,BK247,BK248,HB⟩:=hcut;cases kq with
  |zero=>exact absurd HA.1 (by simp [impl_twoCode.j0])
  |succ kj2=>
   have H:=HA.1;clear HA;simp only [impl_twoCode.j0] at H
   by_cases c17:x5_2=true
   ·subst c17;have H1:(some 1)=some r:=by rw [if_pos rfl] at H;exact H
    clear H;have H:=H1;clear H1;obtain rfl:=Option.some.inj H;go_wp2;go_ret;exact⟨by first|rfl|(simp [errW_none,errW_some] <;> rfl)|(simp [*,errW_none,errW_some] <;> rfl),by repeat(first|(with_reducible first|exact HB.1|apply below_alloc|apply pw_below_drewN|apply below_drew1|refine below_set ?_ GE247.1|refine below_set ?_ GE248.1)|exact HB.1)⟩
   ·replace c17:=Bool.eq_false_iff.mpr c17;subst c17;have H1:(if a0_0=a1_0 then (some 0) else (some 2))=some r:=by rw [if_neg (show ¬(false=true) by decide)] at H;exact H
    clear H;have H:=H1;clear H1
    by_cases c18:a0_0=a1_0
    ·rw [if_pos c18] at H;have c18b0:(a0_0==a1_0)=true:=beq_iff_eq.mpr c18;have c18b1:(a0_0 !=a1_0)=false:=bne_eq_false_iff_eq.mpr c18;clear c18;obtain rfl:=Option.some.inj H;have hnb19:=NB247_248.1;have hnc19:=NB248_247.1;have hcz20_0:wc.cell? ⟨gb247,0,none⟩=some (.int .i64 a0_0):=(blk_cell BK247.1 0).trans rfl;have hcz20_1:wc.cell? ⟨gb247,1,none⟩=some (.slice A0_1 l0_1.length c0_1):=(blk_cell BK247.1 1).trans rfl;have hfz20_0:=blk_frozen BK247.1 0;have hfz20_1:=blk_frozen BK247.1 1;have hcz21_0:wc.cell? ⟨gb248,0,none⟩=some (.int .i64 a1_0):=(blk_cell BK248.1 0).trans rfl;have hcz21_1:wc.cell? ⟨gb248,1,none⟩=some (.slice A1_1 l1_1.length c1_1):=(blk_cell BK248.1 1).trans rfl;have hfz21_0:=blk_frozen BK248.1 0;have hfz21_1:=blk_frozen BK248.1 1;go_wp2;go_ret;exact⟨by first|rfl|(simp [errW_none,errW_some] <;> rfl)|(simp [*,errW_none,errW_some] <;> rfl),by repeat(first|(with_reducible first|exact HB.1|apply below_alloc|apply pw_below_drewN|apply below_drew1|refine below_set ?_ GE247.1|refine below_set ?_ GE248.1)|exact HB.1)⟩
    ·rw [if_neg c18] at H;have c18b0:(a0_0==a1_0)=false:=beq_eq_false_iff_ne.mpr c18;have c18b1:(a0_0 !=a1_0)=true:=bne_iff_ne.mpr c18;obtain rfl:=Option.some.inj H;have hnb22:=NB247_248.1;have hnc22:=NB248_247.1;have hcz23_0:wc.cell? ⟨gb247,0,none⟩=some (.int .i64 a0_0):=(blk_cell BK247.1 0).trans rfl;have hcz23_1:wc.cell? ⟨gb247,1,none⟩=some (.slice A0_1 l0_1.length c0_1):=(blk_cell BK247.1 1).trans rfl;have hfz23_0:=blk_frozen BK247.1 0;have hfz23_1:=blk_frozen BK247.1 1;have hcz24_0:wc.cell? ⟨gb248,0,none⟩=some (.int .i64 a1_0):=(blk_cell BK248.1 0).trans rfl;have hcz24_1:wc.cell? ⟨gb248,1,none⟩=some (.slice A1_1 l1_1.length c1_1):=(blk_cell BK248.1 1).trans rfl;have hfz24_0:=blk_frozen BK248.1 0;have hfz24_1:=blk_frozen BK248.1 1;go_wp2;go_ret;exact⟨by first|rfl|(simp [errW_none,errW_some] <;> rfl)|(simp [*,errW_none,errW_some] <;> rfl),by repeat(first|(with_reducible first|exact HB.1|apply below_alloc|apply pw_below_drewN|apply below_drew1|refine below_set ?_ GE247.1|refine below_set ?_ GE248.1)|exact HB.1)⟩

/-! ### slices_Clone_int64_int64: function 85 -/
def slices_Clone_int64_int64.f (l0:List Int):Option (List Int):=if l0.length<17592186044416 then some l0 else none
-- HAND
theorem hcl_info:(Try.prog.info? 2).map (fun i=>(i.zero,i.size,i.bytes))=some (some (.int .i64 0),1,8):=by kernel_rfl
set_option maxHeartbeats 8000000 in
set_option maxRecDepth 100000 in
theorem slices_Clone_int64_int64.calls (A0:Option Addr) (c0:Nat) (l0:List Int) (r:List Int) (w:World) (hr0:Kd.C (Kd.int .i64) w A0 l0.length l0) (hc0:l0.length≤c0) (h:slices_Clone_int64_int64.f l0=some r):
  Calls Try.prog 85 #[.slice A0 l0.length c0] w fun e w'=>∃v0_:Value,e=.returned (v0_)∧Kd.R (Kd.int .i64) 2 w' w.heap.size (fun _=>True) v0_ r∧Below w.heap.size w w':=by
 have HR0:=qAm hr0;have HC0:=qAm hc0;have HB:=qAm (Below.refl w.heap.size w);unfold slices_Clone_int64_int64.f at h
 by_cases c2:l0.length<17592186044416
 ·rw [if_pos c2] at h;obtain rfl:=Option.some.inj h;clear h;have LMc2:=qAm c2;clear c2 hr0 hc0;cases A0 with
  |none=>
   have hz:l0=[]:=by
    rcases Nat.eq_zero_or_pos l0.length with hz|hz
    ·exact List.eq_nil_of_length_eq_zero hz
    ·obtain⟨ad,e,_⟩:=HR0.1.2.2 hz;cases e
   subst hz;have hn:=fun(W:World) (n c n' c':Nat)=>Lib.run_eql_slice_nil (P:=Try.prog) W 22 2 none n c n' c' Try.underlying22
   go_enter Try.func85,Try.ntmps85;go_wp2;go_ret;exact⟨.slice none 0 0,rfl,Kd.R_nil _ _ _ _ _,Below.refl _ _⟩
  |some ad=>
   have hn:=fun(W:World) (n c n' c':Nat)=>Lib.run_eql_slice_nil (P:=Try.prog) W 22 2 (some ad) n c n' c' Try.underlying22
   obtain⟨y105,hy105⟩:∃y_:List Int,y_=([]:List Int):=⟨_,rfl⟩
   obtain⟨y108,hy108⟩:∃y_:List Int,y_=(y105 ++ l0):=⟨_,rfl⟩
   have Ny105:=qAm hy105;have Ny108:=qAm hy108;have N3:=qAm (show y108=l0 by rw [hy108,hy105];rfl);have LM2:=qAm (show y105.length+l0.length<17592186044416 by rw [hy105];simpa using LMc2.1);clear hy105 hy108;go_enter Try.func85,Try.ntmps85;go_wp2_with (first|((with_reducible refine gate_dst (N:=5) rfl ?_);refine Kd.R_lit (Kd.int .i64) _ 2 ?hg (N:=5) ?hd (xs:=([]:List Int)) (inner:=[]) (ok:=fun _=>True) (okp:=fun _=>True) ?hr ?hp (fun _ hk=>hk) trivial (Below.refl _ _) (Nat.le_refl _) (by simp) ?_;(case hd=>rfl);(case hg=>rfl);(case hr=>first|(go_simp;done)|(go_simp;rfl));(case hp=>exact(Reps.none _ _));intro v106 w3 ho4 hb hg_ hnew_;clear hg_ hnew_;(first|rw [← Ny105.1] at ho4|(simp only [Int.reduceToNat] at ho4;rw [← Ny105.1] at ho4));have n0_:=qAm (Kd.R_lower ho4 (below_size qB90));have n1_:=qAm (below_step qB90 hb);clear HB;have HO107:=n0_;have HB:=n1_;clear n0_ n1_;clear hb ho4)|((with_reducible refine gate_builtin (b:=.append) (xs:=#[.tmp 5,.tmp 6]) rfl ?_);at_builtin;refine Kd.R_append_rows (Kd.int .i64) (w0:=w) w.heap.size rfl (.tmp 5) (.tmp 6) 22 2 (.int .i64 0) 8 rfl Try.underlying22 hcl_info rfl (by decide) (by omega) v106 y105 l0 _ _ _ (fun _=>True) (fun _=>False) rfl rfl ?aO ?aR (fun _ _ h=>h) (fun _ h=>h.elim) ?aF ?aB ?aS ?aL ?_;(case aR=>repeat(first|exact(Kd.C_below HR0.1 HB.1)|(with_reducible refine Kd.C_alloc ?_ _)|(with_reducible refine Kd.C_drewN ?_ _)|(with_reducible refine Kd.C_drew ?_)));(case aB=>exact qB90);(case aF=>exact(fun _ _=>trivial));(case aO=>exact(by (with_reducible repeat(first|apply Kd.R_alloc|apply Kd.R_drewN|apply Kd.R_drew));exact HO107.1));(case aS=>exact(below_size qB90));(case aL=>have:=LM2.1;omega);intro v109 w5 ho hb hg hat;rw [← Ny108.1,N3.1] at ho;have n0_:=qAm (hb);have n1_:=qAm (ho);clear HB;clear HO107;have HB:=n0_;have HO110:=n1_;clear n0_ n1_;clear ho hb hg hat));go_ret;exact⟨_,by first|rfl|(simp;done),by (with_reducible repeat(first|apply Kd.R_alloc|apply Kd.R_drewN|apply Kd.R_drew));exact HO110.1,by repeat(first|(with_reducible first|exact HB.1|apply below_alloc|apply pw_below_drewN|apply below_drew1)|exact HB.1)⟩
 ·rw [if_neg c2] at h;cases h

end Go.Proofs.Ythljmbobccaalaa.PFnExactMultiplyCyclos
