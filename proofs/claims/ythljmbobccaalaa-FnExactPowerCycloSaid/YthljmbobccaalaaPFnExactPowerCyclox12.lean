/- The functions that the law reaches, as plain functions, each with the proof that the program comes to it; no condition. Written by a program of this session (wip/mp.py) over the printing of the kit; what is marked HAND is told by hand. -/
import Derived.Test.YthljmbobccaalaaPFnExactPowerCyclox0
import Derived.Test.YthljmbobccaalaaPFnExactPowerCyclox9
import Derived.Test.YthljmbobccaalaaPFnExactPowerCyclox10
import Derived.Test.YthljmbobccaalaaPFnExactPowerCyclox11
namespace Go.Proofs.Ythljmbobccaalaa.PFnExactPowerCyclo
open Go.RowKit Go.Proofs.YthljmbobccaalaaW.PrintWords Go.Proofs.YthljmbobccaalaaW.PrintLast Go.Proofs.YthljmbobccaalaaW.PrintMore
attribute [local go_sem] max2_int min2_int max_two min_two max_three min_three max_four min_four   -- for this text's walks alone
set_option linter.unusedVariables false
set_option linter.unusedSimpArgs false

/-! ### impl_IsCyclo: function 46 -/
def impl_IsCyclo.f (k:Nat) (a0_0:Int) (l0_1:List Int):Option (Bool):=(impl_isOrder.f a0_0).bind fun t331=>(if t331=true then ((impl_totient.f k a0_0).bind fun t332=>(if (l0_1.length:Int)=t332 then ((impl_areSmall.f l0_1 1000000000).bind fun t333=>(some t333)) else (some false))) else (some false))
theorem impl_IsCyclo.mono:∀a0 a1 k,LeO (impl_IsCyclo.f k a0 a1) (impl_IsCyclo.f (k+1) a0 a1):=by
 intro a0 a1 k;unfold impl_IsCyclo.f;repeat' first
   |(with_reducible exact impl_totient.mono _ _)
   |(with_reducible exact LeO.refl _)
   |(with_reducible exact LeO.none _)
   |(with_reducible refine LeO.ite ?_ ?_)
   |(with_reducible refine LeO.bind ?_ (fun _=>?_))
   |exact impl_totient.mono _ _
   |exact LeO.none _
   |refine LeO.ite ?_ ?_
   |refine LeO.bind ?_ (fun _=>?_)
def impl_IsCyclo.T1:Bool×List (List Nat×List Nat):=(true,[([],[]),([0],[0]),([1],[1]),([2,2],[2]),([3],[3]),([4,3],[3,4]),([5,3],[3,5]),([3],[3]),([7,3],[3,7]),([8,3,3],[3,8]),([6,9,3],[3,6,9]),([3,10],[3,10]),([11,9],[11]),([12],[12]),([13,12],[12,13]),([14,12,12],[12,14]),([12,15],[12,15]),([16,15,0,1,2,3,4,5,6,7,8,9,10,11,12,13,14,15,16],[16])])
def impl_IsCyclo.B1:List Nat:=[0,1,3,7,15,31,63,15,143,399,1023,2047,4095,8191,16383,32767,65535,131071]
theorem impl_IsCyclo.tab1:rtab .any (opsOf Try.f46 1)=impl_IsCyclo.T1:=by kernel_rfl
theorem impl_IsCyclo.bits1:waitsOk impl_IsCyclo.T1.2 impl_IsCyclo.B1=true:=by kernel_rfl
set_option maxHeartbeats 8000000 in
set_option maxRecDepth 100000 in
theorem impl_IsCyclo.calls (k:Nat) (a0_0:Int) (A0_1:Option Addr) (c0_1:Nat) (l0_1:List Int) (r:Bool) (w:World) (hr0_1:Kd.C (Kd.int .i64) w A0_1 l0_1.length l0_1) (hc0_1:l0_1.length≤c0_1) (h:impl_IsCyclo.f k a0_0 l0_1=some r):
  Calls Try.prog 46 #[.agg #[.int .i64 a0_0,.slice A0_1 l0_1.length c0_1]] w fun e w'=>e=.returned (.bool r)∧Below w.heap.size w w':=by
 have hu26:=Try.underlying26;have HR0_1:=qAm hr0_1;have HC0_1:=qAm hc0_1;clear hr0_1 hc0_1;have HB:=qAm (Below.refl w.heap.size w);have H:((impl_isOrder.f a0_0).bind fun t331=>(if t331=true then ((impl_totient.f k a0_0).bind fun t332=>(if (l0_1.length:Int)=t332 then ((impl_areSmall.f l0_1 1000000000).bind fun t333=>(some t333)) else (some false))) else (some false)))=some r:=h;clear h;replace H:=qOb H;obtain⟨t331,A20,H⟩:=H;replace H:(if t331=true then ((impl_totient.f k a0_0).bind fun t332=>(if (l0_1.length:Int)=t332 then ((impl_areSmall.f l0_1 1000000000).bind fun t333=>(some t333)) else (some false))) else (some false))=some r:=H;have A2:=qAm A20;clear A20
 by_cases c3:t331=true
 ·subst c3;have H1:((impl_totient.f k a0_0).bind fun t332=>(if (l0_1.length:Int)=t332 then ((impl_areSmall.f l0_1 1000000000).bind fun t333=>(some t333)) else (some false)))=some r:=by rw [if_pos rfl] at H;exact H
  clear H;have H:=H1;clear H1;replace H:=qOb H;obtain⟨t332,A40,H⟩:=H;replace H:(if (l0_1.length:Int)=t332 then ((impl_areSmall.f l0_1 1000000000).bind fun t333=>(some t333)) else (some false))=some r:=H;have A4:=qAm A40;clear A40
  by_cases c5:(l0_1.length:Int)=t332
  ·rw [if_pos c5] at H;have c5b0:((l0_1.length:Int)==t332)=true:=beq_iff_eq.mpr c5;have c5b1:((l0_1.length:Int) !=t332)=false:=bne_eq_false_iff_eq.mpr c5;clear c5;replace H:=qOb H;obtain⟨t333,A60,H⟩:=H;replace H:(some t333)=some r:=H;have A6:=qAm A60;clear A60;obtain rfl:=Option.some.inj H;go_enter Try.func46,Try.ntmps46;try go_wp2_with (first|((with_reducible refine gate_dst (N:=1) rfl ?_);(try(refine gate_guard (by rfl) ?_;dsimp only));refine box_event ?hg (N:=1) ?hd (cs:=#[.int .i64 a0_0,.slice A0_1 l0_1.length c0_1]) (t:=26) ?hr ?_;(case hd=>rfl);(case hg=>rfl);(case hr=>first|(go_simp;done)|(go_simp;rfl));intro gb330 hg w7 hbox hb;have n0_:=qAm (below_step qB61 hb);have n1_:=qAm (hbox);have n2_:=qAm ((by rw [hg];exact(below_size qB61):w.heap.size≤gb330));have n3_:=qAm ((by rw [hg];exact(below_size qB61):w.heap.size≤gb330));clear HB;have HB:=n0_;have BK330:=n1_;have GW330:=n2_;have GE330:=n3_;clear n0_ n1_ n2_ n3_;clear hb hbox hg))
   have n0_:=qAm (blk_drew BK330.1);have n1_:=qAm (below_drew1 HB.1);clear BK330 HB;have BK330:=n0_;have HB:=n1_;clear n0_ n1_;refine start_ (n:=18) (S:=fun w'=>w'.cell? ⟨gb330,0,none⟩=some (.int .i64 a0_0)∧w'.cell? ⟨gb330,1,none⟩=some (.slice A0_1 l0_1.length c0_1)) (ds:=[]) #[false,false,false,false,false,false,false,false,false,false,false,false,false,false,false,false,false,false] (by kernel_rfl) rfl rfl ⟨(blk_cell BK330.1 0).trans rfl,(blk_cell BK330.1 1).trans rfl⟩ (fun hHeld=>?_);refine with_tabW impl_IsCyclo.tab1 impl_IsCyclo.bits1 (fun HT_ HW_=>?_);generalize w7.drew=w8 at BK330 HB hHeld ⊢;refine pure_ (i:=0) (N:=some 3) (v:=?_) (a':=?_) #[true,false,false,false,false,false,false,false,false,false,false,false,false,false,false,false,false,false] rfl rfl (any_of HT_.1 (by kernel_rfl)) (fun _ _ _ h=>h) (Or.inl ⟨by rfl,?_⟩) ?_ ?_;rotate_left
   ·intro w';go_simp;with_reducible rfl
   rotate_left
   ·simp only [Act.put,qSa,qSb,qSc,i64_w,i32_w];rfl
   refine take_ (i:=1) (N:=some 4) (v:=?_) (a':=?_) #[true,true,false,false,false,false,false,false,false,false,false,false,false,false,false,false,false,false] rfl rfl (take_ofW HT_.1 HW_.1 (by kernel_rfl)) (fun _ _ _ h=>h) (Or.inl ⟨by rfl,?_⟩) hHeld ?_ ?_;rotate_left
   ·rintro w' ⟨s0,s1⟩;go_simp;with_reducible rfl
   rotate_left
   ·simp only [Act.put,qSa,qSb,qSc,i64_w,i32_w];rfl
   refine one_ (i:=2) (N:=some 5) #[true,true,true,false,false,false,false,false,false,false,false,false,false,false,false,false,false,false] rfl rfl (one_of HT_.1 (by kernel_rfl)) (by decide) (fun K hK=>?_);refine goes_ Try.func71 (by kernel_rfl) rfl #[.int .i64 a0_0] (by rfl) rfl rfl qB60 ?_;with_reducible refine(impl_isOrder.calls a0_0 true _ A2.1).mono ?_
   rintro e w' ⟨rfl,⟨nd,rfl⟩⟩;refine⟨_,rfl,?_⟩;refine hK.out _ _ ⟨(blk_cell BK330.1 0).trans rfl,(blk_cell BK330.1 1).trans rfl⟩ (fun hHeld=>?_);clear hK K;refine norm_ (a':=?_) ?_ ?_;rotate_left
   ·show Act.put _ (some 5) _=_
    simp only [Act.put,qSa,qSb,qSc,i64_w,i32_w];rfl
   refine pure_ (i:=3) (N:=some 6) (v:=?_) (a':=?_) #[true,true,true,true,false,false,false,false,false,false,false,false,false,false,false,false,false,false] rfl rfl (any_of HT_.1 (by kernel_rfl)) (fun _ _ _ h=>h) (Or.inl ⟨by rfl,?_⟩) ?_ ?_;rotate_left
   ·intro w';go_simp;with_reducible rfl
   rotate_left
   ·simp only [Act.put,qSa,qSb,qSc,i64_w,i32_w];rfl
   refine pure_ (i:=4) (N:=some 7) (v:=?_) (a':=?_) #[true,true,true,true,true,false,false,false,false,false,false,false,false,false,false,false,false,false] rfl rfl (any_of HT_.1 (by kernel_rfl)) (fun _ _ _ h=>h) (Or.inl ⟨by rfl,?_⟩) ?_ ?_;rotate_left
   ·intro w';go_simp;with_reducible rfl
   rotate_left
   ·simp only [Act.put,qSa,qSb,qSc,i64_w,i32_w];rfl
   refine pure_ (i:=7) (N:=some 10) (v:=?_) (a':=?_) #[true,true,true,true,true,false,false,true,false,false,false,false,false,false,false,false,false,false] rfl rfl (any_of HT_.1 (by kernel_rfl)) (fun _ _ _ h=>h) (Or.inl ⟨by rfl,?_⟩) ?_ ?_;rotate_left
   ·intro w';go_simp;with_reducible rfl
   rotate_left
   ·simp only [Act.put,qSa,qSb,qSc,i64_w,i32_w];rfl
   refine take_ (i:=5) (N:=some 8) (v:=?_) (a':=?_) #[true,true,true,true,true,true,false,true,false,false,false,false,false,false,false,false,false,false] rfl rfl (take_ofW HT_.1 HW_.1 (by kernel_rfl)) (fun _ _ _ h=>h) (Or.inl ⟨by rfl,?_⟩) hHeld ?_ ?_;rotate_left
   ·rintro w' ⟨s0,s1⟩;go_simp;with_reducible rfl
   rotate_left
   ·simp only [Act.put,qSa,qSb,qSc,i64_w,i32_w];rfl
   refine pure_ (i:=6) (N:=some 9) (v:=?_) (a':=?_) #[true,true,true,true,true,true,true,true,false,false,false,false,false,false,false,false,false,false] rfl rfl (any_of HT_.1 (by kernel_rfl)) (fun _ _ _ h=>h) (Or.inl ⟨by rfl,?_⟩) ?_ ?_;rotate_left
   ·intro w';go_simp;with_reducible rfl
   rotate_left
   ·simp only [Act.put,qSa,qSb,qSc,i64_w,i32_w];rfl
   refine take_ (i:=8) (N:=some 11) (v:=?_) (a':=?_) #[true,true,true,true,true,true,true,true,true,false,false,false,false,false,false,false,false,false] rfl rfl (take_ofW HT_.1 HW_.1 (by kernel_rfl)) (fun _ _ _ h=>h) (Or.inl ⟨by rfl,?_⟩) hHeld ?_ ?_;rotate_left
   ·rintro w' ⟨s0,s1⟩;go_simp;with_reducible rfl
   rotate_left
   ·simp only [Act.put,qSa,qSb,qSc,i64_w,i32_w];rfl
   refine one_ (i:=9) (N:=some 12) #[true,true,true,true,true,true,true,true,true,true,false,false,false,false,false,false,false,false] rfl rfl (one_of HT_.1 (by kernel_rfl)) (by decide) (fun K hK=>?_);refine goes_ Try.func72 (by kernel_rfl) rfl #[.int .i64 a0_0] (by rfl) rfl rfl qB60 ?_;with_reducible refine(impl_totient.calls k a0_0 t332 _ A4.1).mono ?_
   rintro e w9 ⟨rfl,hb⟩;refine⟨_,rfl,?_⟩;have n0_:=qAm (blk_below (g:=gb330) (o:=.cells #[.int .i64 a0_0,.slice A0_1 l0_1.length c0_1] 26 (0,0)) qB83 hb);have n1_:=qAm (below_step qB49 hb);clear BK330 HB;have BK330:=n0_;have HB:=n1_;clear n0_ n1_
   (try clear hb)
   (try clear hb2)
   (try clear hk)
   (try clear hi)
   refine hK.out _ _ ⟨(blk_cell BK330.1 0).trans rfl,(blk_cell BK330.1 1).trans rfl⟩ (fun hHeld=>?_);clear hK K;refine norm_ (a':=?_) ?_ ?_;rotate_left
   ·show Act.put _ (some 12) _=_
    simp only [Act.put,qSa,qSb,qSc,i64_w,i32_w];rfl
   refine pure_ (i:=10) (N:=some 13) (v:=?_) (a':=?_) #[true,true,true,true,true,true,true,true,true,true,true,false,false,false,false,false,false,false] rfl rfl (any_of HT_.1 (by kernel_rfl)) (fun _ _ _ h=>h) (Or.inl ⟨by rfl,?_⟩) ?_ ?_;rotate_left
   ·intro w';go_simp;with_reducible rfl
   rotate_left
   ·simp only [Act.put,qSa,qSb,qSc,i64_w,i32_w];rfl
   refine pure_ (i:=11) (N:=some 14) (v:=?_) (a':=?_) #[true,true,true,true,true,true,true,true,true,true,true,true,false,false,false,false,false,false] rfl rfl (any_of HT_.1 (by kernel_rfl)) (fun _ _ _ h=>h) (Or.inl ⟨by rfl,?_⟩) ?_ ?_;rotate_left
   ·intro w';go_simp;with_reducible rfl
   rotate_left
   ·simp only [Act.put,qSa,qSb,qSc,i64_w,i32_w];rfl
   refine pure_ (i:=12) (N:=some 15) (v:=?_) (a':=?_) #[true,true,true,true,true,true,true,true,true,true,true,true,true,false,false,false,false,false] rfl rfl (any_of HT_.1 (by kernel_rfl)) (fun _ _ _ h=>h) (Or.inl ⟨by rfl,?_⟩) ?_ ?_;rotate_left
   ·intro w';go_simp;with_reducible rfl
   rotate_left
   ·simp only [Act.put,qSa,qSb,qSc,i64_w,i32_w];rfl
   refine pure_ (i:=13) (N:=some 16) (v:=?_) (a':=?_) #[true,true,true,true,true,true,true,true,true,true,true,true,true,true,false,false,false,false] rfl rfl (any_of HT_.1 (by kernel_rfl)) (fun _ _ _ h=>h) (Or.inl ⟨by rfl,?_⟩) ?_ ?_;rotate_left
   ·intro w';go_simp;with_reducible rfl
   rotate_left
   ·simp only [Act.put,qSa,qSb,qSc,i64_w,i32_w];rfl
   refine take_ (i:=14) (N:=some 17) (v:=?_) (a':=?_) #[true,true,true,true,true,true,true,true,true,true,true,true,true,true,true,false,false,false] rfl rfl (take_ofW HT_.1 HW_.1 (by kernel_rfl)) (fun _ _ _ h=>h) (Or.inl ⟨by rfl,?_⟩) hHeld ?_ ?_;rotate_left
   ·rintro w' ⟨s0,s1⟩;go_simp;with_reducible rfl
   rotate_left
   ·simp only [Act.put,qSa,qSb,qSc,i64_w,i32_w];rfl
   refine one_ (i:=15) (N:=some 18) #[true,true,true,true,true,true,true,true,true,true,true,true,true,true,true,true,false,false] rfl rfl (one_of HT_.1 (by kernel_rfl)) (by decide) (fun K hK=>?_);refine goes_ Try.func68 (by kernel_rfl) rfl #[.slice A0_1 l0_1.length c0_1,.int .i64 1000000000] (by rfl) rfl rfl qB60 ?_;with_reducible refine(impl_areSmall.calls _ _ l0_1 1000000000 t333 _ ?side1 ?side2 A6.1).mono ?_
   (case side1=>repeat(first|exact(Kd.C_below HR0_1.1 HB.1)|(with_reducible refine Kd.C_alloc ?_ _)|(with_reducible refine Kd.C_drewN ?_ _)|(with_reducible refine Kd.C_drew ?_)))
   (case side2=>exact HC0_1.1)
   rintro e w10 ⟨rfl,hb⟩;refine⟨_,rfl,?_⟩;have n0_:=qAm (blk_below (g:=gb330) (o:=.cells #[.int .i64 a0_0,.slice A0_1 l0_1.length c0_1] 26 (0,0)) qB83 hb);have n1_:=qAm (below_step qB49 hb);clear BK330 HB;have BK330:=n0_;have HB:=n1_;clear n0_ n1_
   (try clear hb)
   (try clear hb2)
   (try clear hk)
   (try clear hi)
   refine hK.out _ _ ⟨(blk_cell BK330.1 0).trans rfl,(blk_cell BK330.1 1).trans rfl⟩ (fun hHeld=>?_);clear hK K;refine norm_ (a':=?_) ?_ ?_;rotate_left
   ·show Act.put _ (some 18) _=_
    simp only [Act.put,qSa,qSb,qSc,i64_w,i32_w];rfl
   refine pure_ (i:=16) (N:=some 19) (v:=?_) (a':=?_) #[true,true,true,true,true,true,true,true,true,true,true,true,true,true,true,true,true,false] rfl rfl (any_of HT_.1 (by kernel_rfl)) (fun _ _ _ h=>h) (Or.inl ⟨by rfl,?_⟩) ?_ ?_;rotate_left
   ·intro w';go_simp;with_reducible rfl
   rotate_left
   ·simp only [Act.put,qSa,qSb,qSc,i64_w,i32_w];rfl
   refine pure_ (i:=17) (N:=some 2) (v:=?_) (a':=?_) #[true,true,true,true,true,true,true,true,true,true,true,true,true,true,true,true,true,true] rfl rfl (any_of HT_.1 (by kernel_rfl)) (fun _ _ _ h=>h) (Or.inl ⟨by rfl,?_⟩) ?_ ?_;rotate_left
   ·intro w';go_simp;with_reducible rfl
   rotate_left
   ·simp only [Act.put,qSa,qSb,qSc,i64_w,i32_w];rfl
   refine done_ (done_of HT_.1 (by kernel_rfl)) ?_;try go_wp2
   go_ret;exact⟨by first|rfl|(simp [errW_none,errW_some] <;> rfl)|(simp [*,errW_none,errW_some] <;> rfl),by repeat(first|(with_reducible first|exact HB.1|apply below_alloc|apply pw_below_drewN|apply below_drew1|refine below_set ?_ GE330.1)|exact HB.1)⟩
  ·rw [if_neg c5] at H;have c5b0:((l0_1.length:Int)==t332)=false:=beq_eq_false_iff_ne.mpr c5;have c5b1:((l0_1.length:Int) !=t332)=true:=bne_iff_ne.mpr c5;obtain rfl:=Option.some.inj H;go_enter Try.func46,Try.ntmps46;try go_wp2_with (first|((with_reducible refine gate_dst (N:=1) rfl ?_);(try(refine gate_guard (by rfl) ?_;dsimp only));refine box_event ?hg (N:=1) ?hd (cs:=#[.int .i64 a0_0,.slice A0_1 l0_1.length c0_1]) (t:=26) ?hr ?_;(case hd=>rfl);(case hg=>rfl);(case hr=>first|(go_simp;done)|(go_simp;rfl));intro gb330 hg w11 hbox hb;have n0_:=qAm (below_step qB61 hb);have n1_:=qAm (hbox);have n2_:=qAm ((by rw [hg];exact(below_size qB61):w.heap.size≤gb330));have n3_:=qAm ((by rw [hg];exact(below_size qB61):w.heap.size≤gb330));clear HB;have HB:=n0_;have BK330:=n1_;have GW330:=n2_;have GE330:=n3_;clear n0_ n1_ n2_ n3_;clear hb hbox hg))
   have n0_:=qAm (blk_drew BK330.1);have n1_:=qAm (below_drew1 HB.1);clear BK330 HB;have BK330:=n0_;have HB:=n1_;clear n0_ n1_;refine start_ (n:=18) (S:=fun w'=>w'.cell? ⟨gb330,0,none⟩=some (.int .i64 a0_0)∧w'.cell? ⟨gb330,1,none⟩=some (.slice A0_1 l0_1.length c0_1)) (ds:=[]) #[false,false,false,false,false,false,false,false,false,false,false,false,false,false,false,false,false,false] (by kernel_rfl) rfl rfl ⟨(blk_cell BK330.1 0).trans rfl,(blk_cell BK330.1 1).trans rfl⟩ (fun hHeld=>?_);refine with_tabW impl_IsCyclo.tab1 impl_IsCyclo.bits1 (fun HT_ HW_=>?_);generalize w11.drew=w12 at BK330 HB hHeld ⊢;refine pure_ (i:=0) (N:=some 3) (v:=?_) (a':=?_) #[true,false,false,false,false,false,false,false,false,false,false,false,false,false,false,false,false,false] rfl rfl (any_of HT_.1 (by kernel_rfl)) (fun _ _ _ h=>h) (Or.inl ⟨by rfl,?_⟩) ?_ ?_;rotate_left
   ·intro w';go_simp;with_reducible rfl
   rotate_left
   ·simp only [Act.put,qSa,qSb,qSc,i64_w,i32_w];rfl
   refine take_ (i:=1) (N:=some 4) (v:=?_) (a':=?_) #[true,true,false,false,false,false,false,false,false,false,false,false,false,false,false,false,false,false] rfl rfl (take_ofW HT_.1 HW_.1 (by kernel_rfl)) (fun _ _ _ h=>h) (Or.inl ⟨by rfl,?_⟩) hHeld ?_ ?_;rotate_left
   ·rintro w' ⟨s0,s1⟩;go_simp;with_reducible rfl
   rotate_left
   ·simp only [Act.put,qSa,qSb,qSc,i64_w,i32_w];rfl
   refine one_ (i:=2) (N:=some 5) #[true,true,true,false,false,false,false,false,false,false,false,false,false,false,false,false,false,false] rfl rfl (one_of HT_.1 (by kernel_rfl)) (by decide) (fun K hK=>?_);refine goes_ Try.func71 (by kernel_rfl) rfl #[.int .i64 a0_0] (by rfl) rfl rfl qB60 ?_;with_reducible refine(impl_isOrder.calls a0_0 true _ A2.1).mono ?_
   rintro e w' ⟨rfl,⟨nd,rfl⟩⟩;refine⟨_,rfl,?_⟩;refine hK.out _ _ ⟨(blk_cell BK330.1 0).trans rfl,(blk_cell BK330.1 1).trans rfl⟩ (fun hHeld=>?_);clear hK K;refine norm_ (a':=?_) ?_ ?_;rotate_left
   ·show Act.put _ (some 5) _=_
    simp only [Act.put,qSa,qSb,qSc,i64_w,i32_w];rfl
   refine pure_ (i:=3) (N:=some 6) (v:=?_) (a':=?_) #[true,true,true,true,false,false,false,false,false,false,false,false,false,false,false,false,false,false] rfl rfl (any_of HT_.1 (by kernel_rfl)) (fun _ _ _ h=>h) (Or.inl ⟨by rfl,?_⟩) ?_ ?_;rotate_left
   ·intro w';go_simp;with_reducible rfl
   rotate_left
   ·simp only [Act.put,qSa,qSb,qSc,i64_w,i32_w];rfl
   refine pure_ (i:=4) (N:=some 7) (v:=?_) (a':=?_) #[true,true,true,true,true,false,false,false,false,false,false,false,false,false,false,false,false,false] rfl rfl (any_of HT_.1 (by kernel_rfl)) (fun _ _ _ h=>h) (Or.inl ⟨by rfl,?_⟩) ?_ ?_;rotate_left
   ·intro w';go_simp;with_reducible rfl
   rotate_left
   ·simp only [Act.put,qSa,qSb,qSc,i64_w,i32_w];rfl
   refine pure_ (i:=7) (N:=some 10) (v:=?_) (a':=?_) #[true,true,true,true,true,false,false,true,false,false,false,false,false,false,false,false,false,false] rfl rfl (any_of HT_.1 (by kernel_rfl)) (fun _ _ _ h=>h) (Or.inl ⟨by rfl,?_⟩) ?_ ?_;rotate_left
   ·intro w';go_simp;with_reducible rfl
   rotate_left
   ·simp only [Act.put,qSa,qSb,qSc,i64_w,i32_w];rfl
   refine take_ (i:=5) (N:=some 8) (v:=?_) (a':=?_) #[true,true,true,true,true,true,false,true,false,false,false,false,false,false,false,false,false,false] rfl rfl (take_ofW HT_.1 HW_.1 (by kernel_rfl)) (fun _ _ _ h=>h) (Or.inl ⟨by rfl,?_⟩) hHeld ?_ ?_;rotate_left
   ·rintro w' ⟨s0,s1⟩;go_simp;with_reducible rfl
   rotate_left
   ·simp only [Act.put,qSa,qSb,qSc,i64_w,i32_w];rfl
   refine pure_ (i:=6) (N:=some 9) (v:=?_) (a':=?_) #[true,true,true,true,true,true,true,true,false,false,false,false,false,false,false,false,false,false] rfl rfl (any_of HT_.1 (by kernel_rfl)) (fun _ _ _ h=>h) (Or.inl ⟨by rfl,?_⟩) ?_ ?_;rotate_left
   ·intro w';go_simp;with_reducible rfl
   rotate_left
   ·simp only [Act.put,qSa,qSb,qSc,i64_w,i32_w];rfl
   refine take_ (i:=8) (N:=some 11) (v:=?_) (a':=?_) #[true,true,true,true,true,true,true,true,true,false,false,false,false,false,false,false,false,false] rfl rfl (take_ofW HT_.1 HW_.1 (by kernel_rfl)) (fun _ _ _ h=>h) (Or.inl ⟨by rfl,?_⟩) hHeld ?_ ?_;rotate_left
   ·rintro w' ⟨s0,s1⟩;go_simp;with_reducible rfl
   rotate_left
   ·simp only [Act.put,qSa,qSb,qSc,i64_w,i32_w];rfl
   refine one_ (i:=9) (N:=some 12) #[true,true,true,true,true,true,true,true,true,true,false,false,false,false,false,false,false,false] rfl rfl (one_of HT_.1 (by kernel_rfl)) (by decide) (fun K hK=>?_);refine goes_ Try.func72 (by kernel_rfl) rfl #[.int .i64 a0_0] (by rfl) rfl rfl qB60 ?_;with_reducible refine(impl_totient.calls k a0_0 t332 _ A4.1).mono ?_
   rintro e w13 ⟨rfl,hb⟩;refine⟨_,rfl,?_⟩;have n0_:=qAm (blk_below (g:=gb330) (o:=.cells #[.int .i64 a0_0,.slice A0_1 l0_1.length c0_1] 26 (0,0)) qB83 hb);have n1_:=qAm (below_step qB49 hb);clear BK330 HB;have BK330:=n0_;have HB:=n1_;clear n0_ n1_
   (try clear hb)
   (try clear hb2)
   (try clear hk)
   (try clear hi)
   refine hK.out _ _ ⟨(blk_cell BK330.1 0).trans rfl,(blk_cell BK330.1 1).trans rfl⟩ (fun hHeld=>?_);clear hK K;refine norm_ (a':=?_) ?_ ?_;rotate_left
   ·show Act.put _ (some 12) _=_
    simp only [Act.put,qSa,qSb,qSc,i64_w,i32_w];rfl
   refine pure_ (i:=10) (N:=some 13) (v:=?_) (a':=?_) #[true,true,true,true,true,true,true,true,true,true,true,false,false,false,false,false,false,false] rfl rfl (any_of HT_.1 (by kernel_rfl)) (fun _ _ _ h=>h) (Or.inl ⟨by rfl,?_⟩) ?_ ?_;rotate_left
   ·intro w';go_simp;with_reducible rfl
   rotate_left
   ·simp only [Act.put,qSa,qSb,qSc,i64_w,i32_w];rfl
   refine pure_ (i:=11) (N:=some 14) (v:=?_) (a':=?_) #[true,true,true,true,true,true,true,true,true,true,true,true,false,false,false,false,false,false] rfl rfl (any_of HT_.1 (by kernel_rfl)) (fun _ _ _ h=>h) (Or.inl ⟨by rfl,?_⟩) ?_ ?_;rotate_left
   ·intro w';go_simp;with_reducible rfl
   rotate_left
   ·simp only [Act.put,qSa,qSb,qSc,i64_w,i32_w];rfl
   refine pure_ (i:=12) (N:=some 15) (v:=?_) (a':=?_) #[true,true,true,true,true,true,true,true,true,true,true,true,true,false,false,false,false,false] rfl rfl (any_of HT_.1 (by kernel_rfl)) (fun _ _ _ h=>h) (Or.inl ⟨by rfl,?_⟩) ?_ ?_;rotate_left
   ·intro w';go_simp;with_reducible rfl
   rotate_left
   ·simp only [Act.put,qSa,qSb,qSc,i64_w,i32_w];rfl
   refine pure_ (i:=13) (N:=some 16) (v:=undef) (a':=?_) #[true,true,true,true,true,true,true,true,true,true,true,true,true,true,false,false,false,false] rfl rfl (any_of HT_.1 (by kernel_rfl)) (fun _ _ _ h=>h) (Or.inr ⟨by rfl,rfl⟩) ?_ ?_;rotate_left
   ·simp only [Act.put,qSa,qSb,qSc,i64_w,i32_w];rfl
   refine pure_ (i:=14) (N:=some 17) (v:=undef) (a':=?_) #[true,true,true,true,true,true,true,true,true,true,true,true,true,true,true,false,false,false] rfl rfl (any_of HT_.1 (by kernel_rfl)) (fun _ _ _ h=>h) (Or.inr ⟨by rfl,rfl⟩) ?_ ?_;rotate_left
   ·simp only [Act.put,qSa,qSb,qSc,i64_w,i32_w];rfl
   refine pure_ (i:=15) (N:=some 18) (v:=undef) (a':=?_) #[true,true,true,true,true,true,true,true,true,true,true,true,true,true,true,true,false,false] rfl rfl (any_of HT_.1 (by kernel_rfl)) (fun _ _ _ h=>h) (Or.inr ⟨by rfl,rfl⟩) ?_ ?_;rotate_left
   ·simp only [Act.put,qSa,qSb,qSc,i64_w,i32_w];rfl
   refine pure_ (i:=16) (N:=some 19) (v:=?_) (a':=?_) #[true,true,true,true,true,true,true,true,true,true,true,true,true,true,true,true,true,false] rfl rfl (any_of HT_.1 (by kernel_rfl)) (fun _ _ _ h=>h) (Or.inl ⟨by rfl,?_⟩) ?_ ?_;rotate_left
   ·intro w';go_simp;with_reducible rfl
   rotate_left
   ·simp only [Act.put,qSa,qSb,qSc,i64_w,i32_w];rfl
   refine pure_ (i:=17) (N:=some 2) (v:=?_) (a':=?_) #[true,true,true,true,true,true,true,true,true,true,true,true,true,true,true,true,true,true] rfl rfl (any_of HT_.1 (by kernel_rfl)) (fun _ _ _ h=>h) (Or.inl ⟨by rfl,?_⟩) ?_ ?_;rotate_left
   ·intro w';go_simp;with_reducible rfl
   rotate_left
   ·simp only [Act.put,qSa,qSb,qSc,i64_w,i32_w];rfl
   refine done_ (done_of HT_.1 (by kernel_rfl)) ?_;try go_wp2
   go_ret;exact⟨by first|rfl|(simp [errW_none,errW_some] <;> rfl)|(simp [*,errW_none,errW_some] <;> rfl),by repeat(first|(with_reducible first|exact HB.1|apply below_alloc|apply pw_below_drewN|apply below_drew1|refine below_set ?_ GE330.1)|exact HB.1)⟩
 ·replace c3:=Bool.eq_false_iff.mpr c3;subst c3;have H1:(some false)=some r:=by rw [if_neg (show ¬(false=true) by decide)] at H;exact H
  clear H;have H:=H1;clear H1;obtain rfl:=Option.some.inj H;go_enter Try.func46,Try.ntmps46;try go_wp2_with (first|((with_reducible refine gate_dst (N:=1) rfl ?_);(try(refine gate_guard (by rfl) ?_;dsimp only));refine box_event ?hg (N:=1) ?hd (cs:=#[.int .i64 a0_0,.slice A0_1 l0_1.length c0_1]) (t:=26) ?hr ?_;(case hd=>rfl);(case hg=>rfl);(case hr=>first|(go_simp;done)|(go_simp;rfl));intro gb330 hg w14 hbox hb;have n0_:=qAm (below_step qB61 hb);have n1_:=qAm (hbox);have n2_:=qAm ((by rw [hg];exact(below_size qB61):w.heap.size≤gb330));have n3_:=qAm ((by rw [hg];exact(below_size qB61):w.heap.size≤gb330));clear HB;have HB:=n0_;have BK330:=n1_;have GW330:=n2_;have GE330:=n3_;clear n0_ n1_ n2_ n3_;clear hb hbox hg))
  have n0_:=qAm (blk_drew BK330.1);have n1_:=qAm (below_drew1 HB.1);clear BK330 HB;have BK330:=n0_;have HB:=n1_;clear n0_ n1_;refine start_ (n:=18) (S:=fun w'=>w'.cell? ⟨gb330,0,none⟩=some (.int .i64 a0_0)∧w'.cell? ⟨gb330,1,none⟩=some (.slice A0_1 l0_1.length c0_1)) (ds:=[]) #[false,false,false,false,false,false,false,false,false,false,false,false,false,false,false,false,false,false] (by kernel_rfl) rfl rfl ⟨(blk_cell BK330.1 0).trans rfl,(blk_cell BK330.1 1).trans rfl⟩ (fun hHeld=>?_);refine with_tabW impl_IsCyclo.tab1 impl_IsCyclo.bits1 (fun HT_ HW_=>?_);generalize w14.drew=w15 at BK330 HB hHeld ⊢;refine pure_ (i:=0) (N:=some 3) (v:=?_) (a':=?_) #[true,false,false,false,false,false,false,false,false,false,false,false,false,false,false,false,false,false] rfl rfl (any_of HT_.1 (by kernel_rfl)) (fun _ _ _ h=>h) (Or.inl ⟨by rfl,?_⟩) ?_ ?_;rotate_left
  ·intro w';go_simp;with_reducible rfl
  rotate_left
  ·simp only [Act.put,qSa,qSb,qSc,i64_w,i32_w];rfl
  refine take_ (i:=1) (N:=some 4) (v:=?_) (a':=?_) #[true,true,false,false,false,false,false,false,false,false,false,false,false,false,false,false,false,false] rfl rfl (take_ofW HT_.1 HW_.1 (by kernel_rfl)) (fun _ _ _ h=>h) (Or.inl ⟨by rfl,?_⟩) hHeld ?_ ?_;rotate_left
  ·rintro w' ⟨s0,s1⟩;go_simp;with_reducible rfl
  rotate_left
  ·simp only [Act.put,qSa,qSb,qSc,i64_w,i32_w];rfl
  refine one_ (i:=2) (N:=some 5) #[true,true,true,false,false,false,false,false,false,false,false,false,false,false,false,false,false,false] rfl rfl (one_of HT_.1 (by kernel_rfl)) (by decide) (fun K hK=>?_);refine goes_ Try.func71 (by kernel_rfl) rfl #[.int .i64 a0_0] (by rfl) rfl rfl qB60 ?_;with_reducible refine(impl_isOrder.calls a0_0 false _ A2.1).mono ?_
  rintro e w' ⟨rfl,⟨nd,rfl⟩⟩;refine⟨_,rfl,?_⟩;refine hK.out _ _ ⟨(blk_cell BK330.1 0).trans rfl,(blk_cell BK330.1 1).trans rfl⟩ (fun hHeld=>?_);clear hK K;refine norm_ (a':=?_) ?_ ?_;rotate_left
  ·show Act.put _ (some 5) _=_
   simp only [Act.put,qSa,qSb,qSc,i64_w,i32_w];rfl
  refine pure_ (i:=3) (N:=some 6) (v:=?_) (a':=?_) #[true,true,true,true,false,false,false,false,false,false,false,false,false,false,false,false,false,false] rfl rfl (any_of HT_.1 (by kernel_rfl)) (fun _ _ _ h=>h) (Or.inl ⟨by rfl,?_⟩) ?_ ?_;rotate_left
  ·intro w';go_simp;with_reducible rfl
  rotate_left
  ·simp only [Act.put,qSa,qSb,qSc,i64_w,i32_w];rfl
  refine pure_ (i:=4) (N:=some 7) (v:=undef) (a':=?_) #[true,true,true,true,true,false,false,false,false,false,false,false,false,false,false,false,false,false] rfl rfl (any_of HT_.1 (by kernel_rfl)) (fun _ _ _ h=>h) (Or.inr ⟨by rfl,rfl⟩) ?_ ?_;rotate_left
  ·simp only [Act.put,qSa,qSb,qSc,i64_w,i32_w];rfl
  refine pure_ (i:=5) (N:=some 8) (v:=undef) (a':=?_) #[true,true,true,true,true,true,false,false,false,false,false,false,false,false,false,false,false,false] rfl rfl (any_of HT_.1 (by kernel_rfl)) (fun _ _ _ h=>h) (Or.inr ⟨by rfl,rfl⟩) ?_ ?_;rotate_left
  ·simp only [Act.put,qSa,qSb,qSc,i64_w,i32_w];rfl
  refine pure_ (i:=6) (N:=some 9) (v:=undef) (a':=?_) #[true,true,true,true,true,true,true,false,false,false,false,false,false,false,false,false,false,false] rfl rfl (any_of HT_.1 (by kernel_rfl)) (fun _ _ _ h=>h) (Or.inr ⟨by rfl,rfl⟩) ?_ ?_;rotate_left
  ·simp only [Act.put,qSa,qSb,qSc,i64_w,i32_w];rfl
  refine pure_ (i:=7) (N:=some 10) (v:=undef) (a':=?_) #[true,true,true,true,true,true,true,true,false,false,false,false,false,false,false,false,false,false] rfl rfl (any_of HT_.1 (by kernel_rfl)) (fun _ _ _ h=>h) (Or.inr ⟨by rfl,rfl⟩) ?_ ?_;rotate_left
  ·simp only [Act.put,qSa,qSb,qSc,i64_w,i32_w];rfl
  refine pure_ (i:=8) (N:=some 11) (v:=undef) (a':=?_) #[true,true,true,true,true,true,true,true,true,false,false,false,false,false,false,false,false,false] rfl rfl (any_of HT_.1 (by kernel_rfl)) (fun _ _ _ h=>h) (Or.inr ⟨by rfl,rfl⟩) ?_ ?_;rotate_left
  ·simp only [Act.put,qSa,qSb,qSc,i64_w,i32_w];rfl
  refine pure_ (i:=9) (N:=some 12) (v:=undef) (a':=?_) #[true,true,true,true,true,true,true,true,true,true,false,false,false,false,false,false,false,false] rfl rfl (any_of HT_.1 (by kernel_rfl)) (fun _ _ _ h=>h) (Or.inr ⟨by rfl,rfl⟩) ?_ ?_;rotate_left
  ·simp only [Act.put,qSa,qSb,qSc,i64_w,i32_w];rfl
  refine pure_ (i:=10) (N:=some 13) (v:=undef) (a':=?_) #[true,true,true,true,true,true,true,true,true,true,true,false,false,false,false,false,false,false] rfl rfl (any_of HT_.1 (by kernel_rfl)) (fun _ _ _ h=>h) (Or.inr ⟨by rfl,rfl⟩) ?_ ?_;rotate_left
  ·simp only [Act.put,qSa,qSb,qSc,i64_w,i32_w];rfl
  refine pure_ (i:=11) (N:=some 14) (v:=?_) (a':=?_) #[true,true,true,true,true,true,true,true,true,true,true,true,false,false,false,false,false,false] rfl rfl (any_of HT_.1 (by kernel_rfl)) (fun _ _ _ h=>h) (Or.inl ⟨by rfl,?_⟩) ?_ ?_;rotate_left
  ·intro w';go_simp;with_reducible rfl
  rotate_left
  ·simp only [Act.put,qSa,qSb,qSc,i64_w,i32_w];rfl
  refine pure_ (i:=12) (N:=some 15) (v:=?_) (a':=?_) #[true,true,true,true,true,true,true,true,true,true,true,true,true,false,false,false,false,false] rfl rfl (any_of HT_.1 (by kernel_rfl)) (fun _ _ _ h=>h) (Or.inl ⟨by rfl,?_⟩) ?_ ?_;rotate_left
  ·intro w';go_simp;with_reducible rfl
  rotate_left
  ·simp only [Act.put,qSa,qSb,qSc,i64_w,i32_w];rfl
  refine pure_ (i:=13) (N:=some 16) (v:=undef) (a':=?_) #[true,true,true,true,true,true,true,true,true,true,true,true,true,true,false,false,false,false] rfl rfl (any_of HT_.1 (by kernel_rfl)) (fun _ _ _ h=>h) (Or.inr ⟨by rfl,rfl⟩) ?_ ?_;rotate_left
  ·simp only [Act.put,qSa,qSb,qSc,i64_w,i32_w];rfl
  refine pure_ (i:=14) (N:=some 17) (v:=undef) (a':=?_) #[true,true,true,true,true,true,true,true,true,true,true,true,true,true,true,false,false,false] rfl rfl (any_of HT_.1 (by kernel_rfl)) (fun _ _ _ h=>h) (Or.inr ⟨by rfl,rfl⟩) ?_ ?_;rotate_left
  ·simp only [Act.put,qSa,qSb,qSc,i64_w,i32_w];rfl
  refine pure_ (i:=15) (N:=some 18) (v:=undef) (a':=?_) #[true,true,true,true,true,true,true,true,true,true,true,true,true,true,true,true,false,false] rfl rfl (any_of HT_.1 (by kernel_rfl)) (fun _ _ _ h=>h) (Or.inr ⟨by rfl,rfl⟩) ?_ ?_;rotate_left
  ·simp only [Act.put,qSa,qSb,qSc,i64_w,i32_w];rfl
  refine pure_ (i:=16) (N:=some 19) (v:=?_) (a':=?_) #[true,true,true,true,true,true,true,true,true,true,true,true,true,true,true,true,true,false] rfl rfl (any_of HT_.1 (by kernel_rfl)) (fun _ _ _ h=>h) (Or.inl ⟨by rfl,?_⟩) ?_ ?_;rotate_left
  ·intro w';go_simp;with_reducible rfl
  rotate_left
  ·simp only [Act.put,qSa,qSb,qSc,i64_w,i32_w];rfl
  refine pure_ (i:=17) (N:=some 2) (v:=?_) (a':=?_) #[true,true,true,true,true,true,true,true,true,true,true,true,true,true,true,true,true,true] rfl rfl (any_of HT_.1 (by kernel_rfl)) (fun _ _ _ h=>h) (Or.inl ⟨by rfl,?_⟩) ?_ ?_;rotate_left
  ·intro w';go_simp;with_reducible rfl
  rotate_left
  ·simp only [Act.put,qSa,qSb,qSc,i64_w,i32_w];rfl
  refine done_ (done_of HT_.1 (by kernel_rfl)) ?_;try go_wp2
  go_ret;exact⟨by first|rfl|(simp [errW_none,errW_some] <;> rfl)|(simp [*,errW_none,errW_some] <;> rfl),by repeat(first|(with_reducible first|exact HB.1|apply below_alloc|apply pw_below_drewN|apply below_drew1|refine below_set ?_ GE330.1)|exact HB.1)⟩

/-! ### impl_field_whole: function 48 -/
def impl_field_whole.f (s0_0:Int) (s0_1:Int) (s0_2:List (List Int)) (a1:Int):Option (List Int×Int×Int):=if 0≤s0_1 then (if (s0_1:Int).toNat≤35184372088832 then ((some (List.replicate (s0_1:Int).toNat 0:List Int)).bind fun y334=>(if 0<(y334.length:Int) then (some ((y334.set (0:Int).toNat a1),s0_0,s0_1)) else (none))) else (none)) else (none)
set_option maxHeartbeats 8000000 in
set_option maxRecDepth 100000 in
theorem impl_field_whole.calls (g:Nat) (s0_0:Int) (s0_1:Int) (s0_2:List (List Int)) (a1:Int) (r1:List Int) (r2:Int) (r3:Int) (w0 w:World) (hI:IsS52 w0 w g s0_0 s0_1 s0_2) (hB:Below w0.heap.size w0 w) (h:impl_field_whole.f s0_0 s0_1 s0_2 a1=some (r1,r2,r3)):
  Calls Try.prog 48 #[.pointer (some ⟨g,0,none⟩),.int .i64 a1] w fun e w'=>∃v0_:Value,e=.returned (v0_)∧Kd.R (Kd.int .i64) 2 w' w.heap.size (fun _=>True) v0_ r1∧IsS52 w0 w' g r2 r3 s0_2∧Below w0.heap.size w0 w'∧KeepBut w w' g none:=by
 have HI0:=qAm hI;have HK:=qAm (KeepBut.refl w g none);have HL:=qAm hB.size;clear hI;have HW0:=qAm hB.size;have HB:=qAm hB;clear hB;have H:(if 0≤s0_1 then (if (s0_1:Int).toNat≤35184372088832 then ((some (List.replicate (s0_1:Int).toNat 0:List Int)).bind fun y334=>(if 0<(y334.length:Int) then (some ((y334.set (0:Int).toNat a1),s0_0,s0_1)) else (none))) else (none)) else (none))=some (r1,r2,r3):=h;clear h
 by_cases c3:0≤s0_1
 ·rw [if_pos c3] at H;have c3b0:=eq_true c3;have c3b1:decide (0≤s0_1)=true:=decide_eq_true c3;clear c3
  by_cases c4:(s0_1:Int).toNat≤35184372088832
  ·rw [if_pos c4] at H;have c4b0:=eq_true c4;have c4b1:decide ((s0_1:Int).toNat≤35184372088832)=true:=decide_eq_true c4;clear c4;obtain⟨y334,hy334⟩:∃y_:List Int,y_=(List.replicate (s0_1:Int).toNat 0):=⟨_,rfl⟩
   replace H:(if 0<(y334.length:Int) then (some ((y334.set (0:Int).toNat a1),s0_0,s0_1)) else (none))=some (r1,r2,r3):=by first|(rw [hy334];with_reducible exact H)|(have H2_:=(Option.bind_some _ _).symm.trans H;rw [hy334];with_reducible exact H2_)|(have H2_:=(Option.bind_some _ _).symm.trans H;with_reducible exact H2_)|with_reducible exact H|(rw [hy334];exact H)|exact H
   have Ny334:=qAm hy334;clear hy334
   by_cases c5:0<(y334.length:Int)
   ·rw [if_pos c5] at H;have c5b0:decide (0<(y334.length:Int))=true:=decide_eq_true c5;have c5b1:decide (0<y334.length)=true:=decide_eq_true (by omega);clear c5;obtain⟨y337,hy337⟩:∃y_:List Int,y_=(y334.set (0:Int).toNat a1):=⟨_,rfl⟩
    replace H:(some (y337,s0_0,s0_1))=some (r1,r2,r3):=by first|(rw [hy337];with_reducible exact H)|(have H2_:=(Option.bind_some _ _).symm.trans H;rw [hy337];with_reducible exact H2_)|(have H2_:=(Option.bind_some _ _).symm.trans H;with_reducible exact H2_)|with_reducible exact H|(rw [hy337];exact H)|exact H
    have Ny337:=qAm hy337;clear hy337;simp only [Option.some.injEq,Prod.mk.injEq] at H;obtain⟨rfl,rfl,rfl⟩:=H;obtain⟨ASz7_2,cSz7_2,HGz7,hgz7,HSz7_2⟩:=HI0.1;have hcz7_0:=cellS52_0 HGz7;have hcz7_1:=cellS52_1 HGz7;have hcz7_2:=cellS52_2 HGz7;have hfz7_0:=blk_frozen HGz7 0;have hfz7_1:=blk_frozen HGz7 1;clear HGz7 hgz7;go_enter Try.func48,Try.ntmps48;go_wp2_with (first|((with_reducible refine gate_dst (N:=10) rfl ?_);refine Kd.R_make (Kd.int .i64) _ 2 rfl (N:=10) rfl 22 _ _ rfl s0_1 rfl rfl Try.underlying22 (.int .i64 0) 8 info2 rfl (by decide) (by omega) 0 (ok:=fun _=>True) (okp:=fun _=>True) rfl (fun _ hk=>hk) trivial (of_decide_eq_true qB118) (Nat.le_trans (Nat.mul_le_mul_right _ (of_decide_eq_true qB118:s0_1.toNat≤35184372088832)) (by omega)) (Below.refl _ _) (Nat.le_refl _) ?_;intro v335 w8 ho9 hb hg_ hnew_;clear hg_ hnew_;(first|rw [← Ny334.1] at ho9|(simp only [Int.reduceToNat] at ho9;rw [← Ny334.1] at ho9));have n0_:=qAm (Kd.R_lower ho9 (keep_size (w:=w) (g:=g) (row:=none) qB55));have n1_:=qAm (IsS52.below qB35 hb);have n2_:=qAm (KeepBut.trans qB55 (KeepBut.of_below hb g none) (.inl rfl));have n3_:=qAm (below_step (by repeat(first|(with_reducible first|exact HB.1|apply below_alloc|apply pw_below_drewN|apply below_drew1|refine below_set ?_ (IsS52.ge HI0.1))|exact HB.1)) hb);clear HI0;clear HK;clear HB;have HO336:=n0_;have HI0:=n1_;have HK:=n2_;have HB:=n3_;clear n0_ n1_ n2_ n3_;clear hb ho9;have p6:0≤(0:Int):=(by omega);have q6:(0:Int)<((y334.length:Int):Int):=of_decide_eq_true qB118;have qi6:(0<y334.length)=True:=eq_true (by omega);obtain⟨go6,co6,eo6,gb6,gl6,cl6,HG6⟩:=Kd.R_form HO336.1 (by omega);(first|cases eo6|(injection eo6 with ea_ en_ ec_;(first|subst ea_|(injection ea_ with ea_;subst ea_));subst ec_;clear en_));have GB6:=qAm gb6;have GG6:=qAm HG6;clear gb6 gl6 HG6;obtain⟨hx6_0,hf6_0⟩:=Kd.R_celln 0 HO336.1 (0:Int) p6 q6;(try rw [show((0:Int)).toNat=0 from rfl] at hx6_0);(try simp only [Nat.reduceMul,Nat.zero_mul,Nat.zero_add,Nat.reduceAdd] at hx6_0);(try rw [show((0:Int)).toNat=0 from rfl] at hf6_0);(try simp only [Nat.reduceMul,Nat.zero_mul,Nat.zero_add,Nat.reduceAdd] at hf6_0);replace p6:=eq_true p6;replace q6:=eq_true q6;obtain⟨hy10_,hz10_⟩:=Kd.R_celln 0 HO336.1 (0:Int) (by omega) (of_decide_eq_true qB118);(try simp only [Int.reduceToNat,Int.toNat_zero,Int.toNat_ofNat,Nat.reduceMul,Nat.zero_mul,Nat.zero_add] at hy10_ hz10_);(try rw [show((0:Int)).toNat=0 from rfl] at hy10_);(try rw [show((0:Int)).toNat=0 from rfl] at hz10_);have HP10:=Kd.R_putg HO336.1 (0:Int) a1)|((with_reducible refine gate_store (t:=2) (p:=13) rfl ?_);refine store_event (t:=2) (p:=13) (v:=?vo_w11) (w1:=(w8.setCell ⟨go6,(0:Int).toNat,none⟩ (.int .i64 a1))) ?hg ?ho ?hn ?hr ?_;(case ho=>rfl);(case hg=>rfl);(case hn=>rfl);(case hr=>first|(go_simp;done)|(go_simp;rfl));intro w11 hw;have hg:w8.grownBy w11 (some go6):=(by rw [hw];exact HP10.2);have hp_:Kd.R (Kd.int .i64) 2 w11 w.heap.size (fun _=>True) (.slice (some ⟨go6,0,none⟩) y334.length co6) y337:=(by rw [hw,Ny337.1];exact HP10.1);clear HP10;have n0_:=qAm (IsS52.grown qB35 hg (IsS52.own_ne HI0.1 HO336.1 (by decide)));have n1_:=qAm (hp_);have n2_:=qAm ((by rw [hw];exact below_set (HB.1) (Nat.le_trans HL.1 GB6.1):Below w0.heap.size w0 w11));have n3_:=qAm (KeepBut.trans qB55 (KeepBut.of_grown hg g) (Kd.R_base2 HO336.1));clear HI0;clear HO336;clear HB;clear HK;have HI0:=n0_;have HO336:=n1_;have HB:=n2_;have HK:=n3_;clear n0_ n1_ n2_ n3_;clear hg hw hp_));go_ret;exact⟨_,by first|rfl|(simp [errW_none,errW_some] <;> rfl)|(simp [*,errW_none,errW_some] <;> rfl),by (with_reducible repeat(first|apply Kd.R_alloc|apply Kd.R_drewN|apply Kd.R_drew));exact HO336.1,by repeat(first|(with_reducible first|exact HI0.1|apply IsS52.alloc|apply IsS52.drewN|apply IsS52.drew|apply IsS52.set_0|apply IsS52.set_1)|exact HI0.1),by repeat(first|(with_reducible first|exact HB.1|apply below_alloc|apply pw_below_drewN|apply below_drew1|refine below_set ?_ (IsS52.ge HI0.1))|exact HB.1),by repeat(first|(with_reducible first|exact HK.1|apply KeepBut.set_|apply keep_drewN|apply keep_drew|apply keep_alloc)|exact HK.1)⟩
   ·rw [if_neg c5] at H;exact absurd H (by simp)
  ·rw [if_neg c4] at H;exact absurd H (by simp)
 ·rw [if_neg c3] at H;exact absurd H (by simp)

/-! ### impl_PowerCyclo: function 19 -/
-- HAND
def hf_pow (o P:Int) (pw:List (List Int)) (x:List Int):Nat→List Int→Option (List Int×Bool)
 |0,out=>some (out,true)
 |m+1,out=>(impl_field_times.f o P pw out x).bind fun d=>if d.2.1=true then hf_pow o P pw x m d.1 else some ([],false)
theorem below_size_ {w w':World} (h:Below w.heap.size w w'):w.heap.size≤w'.heap.size:=below_size h
theorem hwh_st {o P:Int} {pw:List (List Int)} {a:Int} {e1:List Int} {d2 d3:Int} (hw:impl_field_whole.f o P pw a=some (e1,d2,d3)):d2=o∧d3=P:=by
 unfold impl_field_whole.f at hw;have hz:∀{p:Prop} [Decidable p] {x:Option (List Int×Int×Int)},(if p then x else none)=some (e1,d2,d3)→x=some (e1,d2,d3):=fun hx=>by split at hx;(· exact hx);cases hx
 have hw:=hz (hz (hz hw));simp only [Option.some.injEq,Prod.mk.injEq] at hw;exact⟨hw.2.1.symm,hw.2.2.symm⟩
def impl_PowerCyclo.f (k:Nat) (a0_0:Int) (l0_1:List Int) (a1:Int):Option (Int×List Int×Int):=(impl_IsCyclo.f k a0_0 l0_1).bind fun t=>if t=true then (if 0≤a1∧a1≤64 then ((impl_fieldOf.f k a0_0).bind fun b=>(impl_field_whole.f b.1 b.2.1 b.2.2 1).bind fun d=>(hf_pow b.1 b.2.1 b.2.2 l0_1 a1.toNat d.1).bind fun r=>if r.2=true then ((impl_cycloOf.f a0_0 r.1).bind fun e=>some (e.1,e.2.1,e.2.2)) else some (0,[],3)) else some (0,[],2)) else some (0,[],1)
theorem impl_PowerCyclo.mono:∀a0 a1 a2 k,LeO (impl_PowerCyclo.f k a0 a1 a2) (impl_PowerCyclo.f (k+1) a0 a1 a2):=by
 intro a0 a1 a2 k;unfold impl_PowerCyclo.f;repeat' first
   |(with_reducible exact impl_IsCyclo.mono _ _ _)
   |(with_reducible exact LeO.refl _)
   |(with_reducible exact LeO.none _)
   |(with_reducible refine LeO.ite ?_ ?_)
   |(with_reducible refine LeO.bind ?_ (fun _=>?_))
   |exact impl_IsCyclo.mono _ _ _
   |apply impl_fieldOf.mono
   |exact LeO.none _
   |refine LeO.ite ?_ ?_
   |refine LeO.bind ?_ (fun _=>?_)
set_option maxHeartbeats 8000000 in
set_option maxRecDepth 100000 in
theorem impl_PowerCyclo.calls (k:Nat) (a0_0:Int) (A0_1:Option Addr) (c0_1:Nat) (l0_1:List Int) (a1:Int) (r1:Int) (r2:List Int) (r3:Int) (w:World) (hr0_1:Kd.C (Kd.int .i64) w A0_1 l0_1.length l0_1) (hc0_1:l0_1.length≤c0_1) (h:impl_PowerCyclo.f k a0_0 l0_1 a1=some (r1,r2,r3)):
  Calls Try.prog 19 #[.agg #[.int .i64 a0_0,.slice A0_1 l0_1.length c0_1],.int .i64 a1] w fun e w'=>∃v1_:Value,e=.returned (.tuple #[.agg #[.int .i64 r1,v1_],.int .i64 r3])∧Kd.R (Kd.int .i64) 2 w' w.heap.size (fun _=>True) v1_ r2∧Below w.heap.size w w':=by
 have HR0:=qAm hr0_1;have HC0:=qAm hc0_1;have HB:=qAm (Below.refl w.heap.size w);clear hr0_1 hc0_1;unfold impl_PowerCyclo.f at h;obtain⟨t,A1,H⟩:=qOb h;replace A1:=qAm A1;clear h;cases t with
 |false=>
  simp only [Bool.false_eq_true,if_false,Option.some.injEq,Prod.mk.injEq] at H;obtain⟨rfl,rfl,rfl⟩:=H;go_enter Try.func19,Try.ntmps19;go_wp2_with (first|((with_reducible refine gate_dst (N:=2) rfl ?_);refine box_event ?hg (N:=2) ?hd (cs:=#[.int .i64 a0_0,.slice A0_1 l0_1.length c0_1]) (t:=26) ?hr ?_;(case hd=>rfl);(case hg=>rfl);(case hr=>first|(go_simp;done)|(go_simp;rfl));intro gx hg wx hbox hb;have Gx:=qAm (by rw [hg];exact below_size HB.1:w.heap.size≤gx);have hgs_:=hg;have mHB_:=qAm (below_step HB.1 hb);clear HB;have HB:=mHB_;clear mHB_;have Bx:=qAm hbox;clear hbox;have cwxx_0:wx.cell? ⟨gx,0,none⟩=some (.int .i64 a0_0):=(blk_cell Bx.1 0).trans rfl;have fwxx_0:=blk_frozen Bx.1 0;have cwxx_1:wx.cell? ⟨gx,1,none⟩=some (.slice A0_1 l0_1.length c0_1):=(blk_cell Bx.1 1).trans rfl;have fwxx_1:=blk_frozen Bx.1 1;clear hb hg hgs_)|((with_reducible refine gate_dst (N:=4) rfl ?_);refine box_event ?hg (N:=4) ?hd (cs:=#[.int .i64 0,.slice none 0 0]) (t:=26) ?hr ?_;(case hd=>rfl);(case hg=>rfl);(case hr=>first|(go_simp;done)|(go_simp;rfl));intro gr hg wr hbox hb;have Gr:=qAm (by rw [hg];exact below_size HB.1:w.heap.size≤gr);have Nx_r:=qAm (by rw [hg];exact Nat.ne_of_lt (blk_lt (g:=gx) (o:=.cells #[.int .i64 a0_0,.slice A0_1 l0_1.length c0_1] 26 (0,0)) Bx.1):gx≠gr);have hgs_:=hg;have mBx_:=qAm (blk_below (g:=gx) (o:=.cells #[.int .i64 a0_0,.slice A0_1 l0_1.length c0_1] 26 (0,0)) Bx.1 hb);have mHB_:=qAm (below_step HB.1 hb);clear Bx HB;have Bx:=mBx_;have HB:=mHB_;clear mBx_ mHB_;have Br:=qAm hbox;clear hbox;have cwrx_0:wr.cell? ⟨gx,0,none⟩=some (.int .i64 a0_0):=(blk_cell Bx.1 0).trans rfl;have fwrx_0:=blk_frozen Bx.1 0;have cwrx_1:wr.cell? ⟨gx,1,none⟩=some (.slice A0_1 l0_1.length c0_1):=(blk_cell Bx.1 1).trans rfl;have fwrx_1:=blk_frozen Bx.1 1;have cwrr_0:wr.cell? ⟨gr,0,none⟩=some (.int .i64 0):=(blk_cell Br.1 0).trans rfl;have fwrr_0:=blk_frozen Br.1 0;have cwrr_1:wr.cell? ⟨gr,1,none⟩=some (.slice none 0 0):=(blk_cell Br.1 1).trans rfl;have fwrr_1:=blk_frozen Br.1 1;have nx_r:=Nx_r.1;have ox_r:=Nx_r.1.symm;clear hb hg hgs_)|(go_at_call 46;refine(impl_IsCyclo.calls k a0_0 _ _ l0_1 _ _ (Kd.C_below HR0.1 HB.1) HC0.1 A1.1).mono ?_;rintro e w2 ⟨rfl,hb⟩;have mBx_:=qAm (blk_below (g:=gx) (o:=.cells #[.int .i64 a0_0,.slice A0_1 l0_1.length c0_1] 26 (0,0)) Bx.1 hb);have mBr_:=qAm (blk_below (g:=gr) (o:=.cells #[.int .i64 0,.slice none 0 0] 26 (0,0)) Br.1 hb);have mHB_:=qAm (below_step HB.1 hb);clear Bx Br HB;have Bx:=mBx_;have Br:=mBr_;have HB:=mHB_;clear mBx_ mBr_ mHB_;clear hb;have cw2x_0:w2.cell? ⟨gx,0,none⟩=some (.int .i64 a0_0):=(blk_cell Bx.1 0).trans rfl;have fw2x_0:=blk_frozen Bx.1 0;have cw2x_1:w2.cell? ⟨gx,1,none⟩=some (.slice A0_1 l0_1.length c0_1):=(blk_cell Bx.1 1).trans rfl;have fw2x_1:=blk_frozen Bx.1 1;have cw2r_0:w2.cell? ⟨gr,0,none⟩=some (.int .i64 0):=(blk_cell Br.1 0).trans rfl;have fw2r_0:=blk_frozen Br.1 0;have cw2r_1:w2.cell? ⟨gr,1,none⟩=some (.slice none 0 0):=(blk_cell Br.1 1).trans rfl;have fw2r_1:=blk_frozen Br.1 1));refine bodyPost_ret (results_ct rfl _ _ gr 26 #[.int .i64 0,.slice none 0 0] (0,0) _ rfl (blk_put (cs:=#[.int .i64 0,.slice none 0 0]) (blk_put (cs:=#[.int .i64 0,.slice none 0 0]) Br.1 0 (.int .i64 0) rfl) 1 (.slice none 0 0) rfl) Try.underlying26 rfl (by kernel_rfl)) rfl ?_;exact⟨.slice none 0 0,by first|rfl|(simp;done),Kd.R_nil _ _ _ _ _,below_set (below_set HB.1 Gr.1) Gr.1⟩
 |true=>
  simp only [if_true] at H
  by_cases hk:0≤a1∧a1≤64
  ·rw [if_pos hk] at H;have hwi:impl_within.f a1 0 64=some true:=by unfold impl_within.f;rw [if_pos hk.1];simp [hk.2]
   have HKA:=qAm hk;obtain⟨⟨o,n,pw⟩,A2,H⟩:=qOb H;obtain⟨⟨q1,d2,d3⟩,A3,H⟩:=qOb H;obtain⟨⟨q,b⟩,A4,H4⟩:=qOb H;clear H;obtain⟨rfl,rfl⟩:o=d2∧n=d3:=⟨(hwh_st A3).1.symm,(hwh_st A3).2.symm⟩
   replace A2:=qAm A2;replace A3:=qAm A3;replace A4:=qAm A4;have HZ:=qAm H4;clear hk H4;go_enter Try.func19,Try.ntmps19;go_wp2_with (first|((with_reducible refine gate_dst (N:=2) rfl ?_);refine box_event ?hg (N:=2) ?hd (cs:=#[.int .i64 a0_0,.slice A0_1 l0_1.length c0_1]) (t:=26) ?hr ?_;(case hd=>rfl);(case hg=>rfl);(case hr=>first|(go_simp;done)|(go_simp;rfl));intro gx hg wx hbox hb;have Gx:=qAm (by rw [hg];exact below_size HB.1:w.heap.size≤gx);have hgs_:=hg;have mHB_:=qAm (below_step HB.1 hb);clear HB;have HB:=mHB_;clear mHB_;have Bx:=qAm hbox;clear hbox;have cwxx_0:wx.cell? ⟨gx,0,none⟩=some (.int .i64 a0_0):=(blk_cell Bx.1 0).trans rfl;have fwxx_0:=blk_frozen Bx.1 0;have cwxx_1:wx.cell? ⟨gx,1,none⟩=some (.slice A0_1 l0_1.length c0_1):=(blk_cell Bx.1 1).trans rfl;have fwxx_1:=blk_frozen Bx.1 1;clear hb hg hgs_)|((with_reducible refine gate_dst (N:=4) rfl ?_);refine box_event ?hg (N:=4) ?hd (cs:=#[.int .i64 0,.slice none 0 0]) (t:=26) ?hr ?_;(case hd=>rfl);(case hg=>rfl);(case hr=>first|(go_simp;done)|(go_simp;rfl));intro gr hg wr hbox hb;have Gr:=qAm (by rw [hg];exact below_size HB.1:w.heap.size≤gr);have Nx_r:=qAm (by rw [hg];exact Nat.ne_of_lt (blk_lt (g:=gx) (o:=.cells #[.int .i64 a0_0,.slice A0_1 l0_1.length c0_1] 26 (0,0)) Bx.1):gx≠gr);have hgs_:=hg;have mBx_:=qAm (blk_below (g:=gx) (o:=.cells #[.int .i64 a0_0,.slice A0_1 l0_1.length c0_1] 26 (0,0)) Bx.1 hb);have mHB_:=qAm (below_step HB.1 hb);clear Bx HB;have Bx:=mBx_;have HB:=mHB_;clear mBx_ mHB_;have Br:=qAm hbox;clear hbox;have cwrx_0:wr.cell? ⟨gx,0,none⟩=some (.int .i64 a0_0):=(blk_cell Bx.1 0).trans rfl;have fwrx_0:=blk_frozen Bx.1 0;have cwrx_1:wr.cell? ⟨gx,1,none⟩=some (.slice A0_1 l0_1.length c0_1):=(blk_cell Bx.1 1).trans rfl;have fwrx_1:=blk_frozen Bx.1 1;have cwrr_0:wr.cell? ⟨gr,0,none⟩=some (.int .i64 0):=(blk_cell Br.1 0).trans rfl;have fwrr_0:=blk_frozen Br.1 0;have cwrr_1:wr.cell? ⟨gr,1,none⟩=some (.slice none 0 0):=(blk_cell Br.1 1).trans rfl;have fwrr_1:=blk_frozen Br.1 1;have nx_r:=Nx_r.1;have ox_r:=Nx_r.1.symm;clear hb hg hgs_)|(go_at_call 46;refine(impl_IsCyclo.calls k a0_0 _ _ l0_1 _ _ (Kd.C_below HR0.1 HB.1) HC0.1 A1.1).mono ?_;rintro e w2 ⟨rfl,hb⟩;have mBx_:=qAm (blk_below (g:=gx) (o:=.cells #[.int .i64 a0_0,.slice A0_1 l0_1.length c0_1] 26 (0,0)) Bx.1 hb);have mBr_:=qAm (blk_below (g:=gr) (o:=.cells #[.int .i64 0,.slice none 0 0] 26 (0,0)) Br.1 hb);have mHB_:=qAm (below_step HB.1 hb);clear Bx Br HB;have Bx:=mBx_;have Br:=mBr_;have HB:=mHB_;clear mBx_ mBr_ mHB_;clear hb;have cw2x_0:w2.cell? ⟨gx,0,none⟩=some (.int .i64 a0_0):=(blk_cell Bx.1 0).trans rfl;have fw2x_0:=blk_frozen Bx.1 0;have cw2x_1:w2.cell? ⟨gx,1,none⟩=some (.slice A0_1 l0_1.length c0_1):=(blk_cell Bx.1 1).trans rfl;have fw2x_1:=blk_frozen Bx.1 1;have cw2r_0:w2.cell? ⟨gr,0,none⟩=some (.int .i64 0):=(blk_cell Br.1 0).trans rfl;have fw2r_0:=blk_frozen Br.1 0;have cw2r_1:w2.cell? ⟨gr,1,none⟩=some (.slice none 0 0):=(blk_cell Br.1 1).trans rfl;have fw2r_1:=blk_frozen Br.1 1)|(go_at_call 47;refine(impl_within.calls a1 0 64 true _ hwi).mono ?_;rintro e w2b ⟨rfl,⟨nd,hnd⟩⟩;have hb:=(by rw [hnd];exact pw_below_drewN (Below.refl _ _) nd:Below w2.heap.size w2 w2b);have mBx_:=qAm (blk_below (g:=gx) (o:=.cells #[.int .i64 a0_0,.slice A0_1 l0_1.length c0_1] 26 (0,0)) Bx.1 hb);have mBr_:=qAm (blk_below (g:=gr) (o:=.cells #[.int .i64 0,.slice none 0 0] 26 (0,0)) Br.1 hb);have mHB_:=qAm (below_step HB.1 hb);clear Bx Br HB;have Bx:=mBx_;have Br:=mBr_;have HB:=mHB_;clear mBx_ mBr_ mHB_;clear hb hnd nd;have cw2bx_0:w2b.cell? ⟨gx,0,none⟩=some (.int .i64 a0_0):=(blk_cell Bx.1 0).trans rfl;have fw2bx_0:=blk_frozen Bx.1 0;have cw2bx_1:w2b.cell? ⟨gx,1,none⟩=some (.slice A0_1 l0_1.length c0_1):=(blk_cell Bx.1 1).trans rfl;have fw2bx_1:=blk_frozen Bx.1 1;have cw2br_0:w2b.cell? ⟨gr,0,none⟩=some (.int .i64 0):=(blk_cell Br.1 0).trans rfl;have fw2br_0:=blk_frozen Br.1 0;have cw2br_1:w2b.cell? ⟨gr,1,none⟩=some (.slice none 0 0):=(blk_cell Br.1 1).trans rfl;have fw2br_1:=blk_frozen Br.1 1)|(go_at_call 40;refine(impl_fieldOf.calls k a0_0 o n pw _ A2.1).mono ?_;rintro e w3 ⟨v3,rfl,ho3,hb⟩;have mBx_:=qAm (blk_below (g:=gx) (o:=.cells #[.int .i64 a0_0,.slice A0_1 l0_1.length c0_1] 26 (0,0)) Bx.1 hb);have mBr_:=qAm (blk_below (g:=gr) (o:=.cells #[.int .i64 0,.slice none 0 0] 26 (0,0)) Br.1 hb);have mHB_:=qAm (below_step HB.1 hb);clear Bx Br HB;have Bx:=mBx_;have Br:=mBr_;have HB:=mHB_;clear mBx_ mBr_ mHB_;obtain⟨Ap,cp,rfl⟩:=Kd.N_slice ho3;have HP:=qAm (Kd.N_reads' ho3).2.2;have HBp:=HB;clear hb ho3)|((with_reducible refine gate_dst (N:=6) rfl ?_);refine box_event ?hg (N:=6) ?hd (cs:=#[.int .i64 0,.int .i64 0,.slice none 0 0]) (t:=52) ?hr ?_;(case hd=>rfl);(case hg=>rfl);(case hr=>first|(go_simp;done)|(go_simp;rfl));intro gf hg wf hbox hb;have Gf:=qAm (by rw [hg];exact below_size HB.1:w.heap.size≤gf);have Nx_f:=qAm (by rw [hg];exact Nat.ne_of_lt (blk_lt (g:=gx) (o:=.cells #[.int .i64 a0_0,.slice A0_1 l0_1.length c0_1] 26 (0,0)) Bx.1):gx≠gf);have Nr_f:=qAm (by rw [hg];exact Nat.ne_of_lt (blk_lt (g:=gr) (o:=.cells #[.int .i64 0,.slice none 0 0] 26 (0,0)) Br.1):gr≠gf);have hgs_:=hg;have mBx_:=qAm (blk_below (g:=gx) (o:=.cells #[.int .i64 a0_0,.slice A0_1 l0_1.length c0_1] 26 (0,0)) Bx.1 hb);have mBr_:=qAm (blk_below (g:=gr) (o:=.cells #[.int .i64 0,.slice none 0 0] 26 (0,0)) Br.1 hb);have mHB_:=qAm (below_step HB.1 hb);clear Bx Br HB;have Bx:=mBx_;have Br:=mBr_;have HB:=mHB_;clear mBx_ mBr_ mHB_;have Bf:=qAm hbox;clear hbox;have cwfx_0:wf.cell? ⟨gx,0,none⟩=some (.int .i64 a0_0):=(blk_cell Bx.1 0).trans rfl;have fwfx_0:=blk_frozen Bx.1 0;have cwfx_1:wf.cell? ⟨gx,1,none⟩=some (.slice A0_1 l0_1.length c0_1):=(blk_cell Bx.1 1).trans rfl;have fwfx_1:=blk_frozen Bx.1 1;have cwfr_0:wf.cell? ⟨gr,0,none⟩=some (.int .i64 0):=(blk_cell Br.1 0).trans rfl;have fwfr_0:=blk_frozen Br.1 0;have cwfr_1:wf.cell? ⟨gr,1,none⟩=some (.slice none 0 0):=(blk_cell Br.1 1).trans rfl;have fwfr_1:=blk_frozen Br.1 1;have cwff_0:wf.cell? ⟨gf,0,none⟩=some (.int .i64 0):=(blk_cell Bf.1 0).trans rfl;have fwff_0:=blk_frozen Bf.1 0;have cwff_1:wf.cell? ⟨gf,1,none⟩=some (.int .i64 0):=(blk_cell Bf.1 1).trans rfl;have fwff_1:=blk_frozen Bf.1 1;have cwff_2:wf.cell? ⟨gf,2,none⟩=some (.slice none 0 0):=(blk_cell Bf.1 2).trans rfl;have fwff_2:=blk_frozen Bf.1 2;have nx_f:=Nx_f.1;have nr_f:=Nr_f.1;have ox_f:=Nx_f.1.symm;have or_f:=Nr_f.1.symm;have GE:=qAm (by rw [hgs_];exact Nat.le_refl _:w3.heap.size≤gf);have BW:=qAm hb;clear hb hg hgs_)|(go_at_call 48;have HG:=qAm (blk_put (cs:=#[.int .i64 o,.int .i64 n,.slice none 0 0]) (blk_put (cs:=#[.int .i64 o,.int .i64 0,.slice none 0 0]) (blk_put (cs:=#[.int .i64 0,.int .i64 0,.slice none 0 0]) Bf.1 0 (.int .i64 o) rfl) 1 (.int .i64 n) rfl) 2 (.slice Ap pw.length cp) rfl);have HI:Aside0 (IsS52 w3 _ gf o n pw):=qAm ⟨Ap,cp,HG.1,GE.1,HP.1⟩;have mBx_:=qAm (blk_far (p:=⟨gf,2,none⟩) (blk_far (p:=⟨gf,1,none⟩) (blk_far (p:=⟨gf,0,none⟩) Bx.1 Nx_f.1 (.int .i64 o)) Nx_f.1 (.int .i64 n)) Nx_f.1 (.slice Ap pw.length cp));have mBr_:=qAm (blk_far (p:=⟨gf,2,none⟩) (blk_far (p:=⟨gf,1,none⟩) (blk_far (p:=⟨gf,0,none⟩) Br.1 Nr_f.1 (.int .i64 o)) Nr_f.1 (.int .i64 n)) Nr_f.1 (.slice Ap pw.length cp));have mHB_:=qAm (below_set (below_set (below_set HB.1 Gf.1 (j:=0) (v:=.int .i64 o)) Gf.1 (j:=1) (v:=.int .i64 n)) Gf.1 (j:=2) (v:=.slice Ap pw.length cp));have mBW_:=qAm (below_set (below_set (below_set BW.1 GE.1 (j:=0) (v:=.int .i64 o)) GE.1 (j:=1) (v:=.int .i64 n)) GE.1 (j:=2) (v:=.slice Ap pw.length cp));clear Bx Br HB BW;have Bx:=mBx_;have Br:=mBr_;have HB:=mHB_;have BW:=mBW_;clear mBx_ mBr_ mHB_ mBW_;have HBs:=HB;refine(impl_field_whole.calls gf o n pw 1 q1 o n w3 _ HI.1 BW.1 A3.1).mono ?_;rintro e w5 ⟨v5,rfl,ho,hi,hb,hk⟩;have mBx_:=qAm (KeepBut.blk hk Bx.1 Nx_f.1 (by simp));have mBr_:=qAm (KeepBut.blk hk Br.1 Nr_f.1 (by simp));have mHI_:=qAm (hi);have mBW_:=qAm (hb);have mHB_:=qAm (below_step HBp.1 hb);clear Bx Br HI BW HB;have Bx:=mBx_;have Br:=mBr_;have HI:=mHI_;have BW:=mBW_;have HB:=mHB_;clear mBx_ mBr_ mHI_ mBW_ mHB_;have HO:=qAm (Kd.R_lower ho (below_size_ HBs.1));clear ho HBs;clear hi hb hk;have cw5x_0:w5.cell? ⟨gx,0,none⟩=some (.int .i64 a0_0):=(blk_cell Bx.1 0).trans rfl;have fw5x_0:=blk_frozen Bx.1 0;have cw5x_1:w5.cell? ⟨gx,1,none⟩=some (.slice A0_1 l0_1.length c0_1):=(blk_cell Bx.1 1).trans rfl;have fw5x_1:=blk_frozen Bx.1 1;have cw5r_0:w5.cell? ⟨gr,0,none⟩=some (.int .i64 0):=(blk_cell Br.1 0).trans rfl;have fw5r_0:=blk_frozen Br.1 0;have cw5r_1:w5.cell? ⟨gr,1,none⟩=some (.slice none 0 0):=(blk_cell Br.1 1).trans rfl;have fw5r_1:=blk_frozen Br.1 1));go_loopg [7,25] (a1.toNat+1) (fun kq v7 v25 w'=>∃(i:Nat) (out:List Int),v25=.int .i64 i∧Aside0 (kq+i=a1.toNat+1∧i≤a1.toNat)∧Aside0 (hf_pow o n pw l0_1 (a1.toNat - i) out=some (q,b))∧Aside0 (Kd.R (Kd.int .i64) 2 w' w.heap.size (fun _=>True) v7 out)∧Aside0 (IsS52 w3 w' gf o n pw)∧Aside0 (Below w3.heap.size w3 w')∧Aside0 (Below w.heap.size w w')∧Aside0 (w'.heap[gx]? =some (.cells #[.int .i64 a0_0,.slice A0_1 l0_1.length c0_1] 26 (0,0)))∧Aside0 (w'.heap[gr]? =some (.cells #[.int .i64 0,.slice none 0 0] 26 (0,0))))
   case atStart=>exact⟨0,q1,rfl,⟨by omega,by omega⟩,⟨by simpa using A4.1⟩,HO,HI,BW,HB,Bx,Br⟩
   case round=>
    clear HO HI BW HB Bx Br A4 A3 ;obtain⟨i,out,rfl,HA,HQ,HO,HI,BW,HB,Bx,Br⟩:=hrel;obtain⟨Ao,co,eo⟩:=Kd.R_slice HO.1;subst eo;have cwrx_0:wr.cell? ⟨gx,0,none⟩=some (.int .i64 a0_0):=(blk_cell Bx.1 0).trans rfl;have fwrx_0:=blk_frozen Bx.1 0;have cwrx_1:wr.cell? ⟨gx,1,none⟩=some (.slice A0_1 l0_1.length c0_1):=(blk_cell Bx.1 1).trans rfl;have fwrx_1:=blk_frozen Bx.1 1;have cwrr_0:wr.cell? ⟨gr,0,none⟩=some (.int .i64 0):=(blk_cell Br.1 0).trans rfl;have fwrr_0:=blk_frozen Br.1 0;have cwrr_1:wr.cell? ⟨gr,1,none⟩=some (.slice none 0 0):=(blk_cell Br.1 1).trans rfl;have fwrr_1:=blk_frozen Br.1 1;have hka:=HKA.1
    by_cases hlt:i<a1.toNat
    ·obtain⟨m,hm⟩:∃m,a1.toNat - i=m+1:=⟨a1.toNat - i - 1,by omega⟩
     have hQ:=HQ.1;rw [hm] at hQ;obtain⟨⟨r,ok,e3,e4⟩,ht,hQ⟩:=qOb hQ;unfold impl_field_times.f at ht;obtain⟨S',hS',he⟩:=Option.map_eq_some_iff.mp ht;simp only [Prod.mk.injEq] at he;obtain⟨rfl,hok,rfl,rfl⟩:=he
     by_cases hn:0≤n∧n≤1000000
     ·rw [if_pos hn] at hS';obtain⟨n',rfl⟩:∃n':Nat,n=n':=⟨n.toNat,by omega⟩
      rw [Int.toNat_natCast] at hS';have HS:=qAm hS';have hlt2:(i:Int)<a1:=by omega
      clear hS' ht;cases ok with
      |false=>
       have hQ':some (([]:List Int),false)=some (q,b):=by simpa using hQ
       simp only [Option.some.injEq,Prod.mk.injEq] at hQ';obtain⟨rfl,rfl⟩:=hQ';have H:=HZ.1;simp only [Bool.false_eq_true,if_false,Option.some.injEq,Prod.mk.injEq] at H;obtain⟨rfl,rfl,rfl⟩:=H;go_wp2_with (first|(go_at_call 41;have HBs:=HB;refine(himg_times HI.1 (by omega) (Kd.R_reads' HO.1).2.2 (Kd.C_below HR0.1 HB.1) HS.1 hok BW.1).mono ?_;rintro e w7 ⟨v7,rfl,ho,hb⟩;have mBx_:=qAm (blk_below (g:=gx) (o:=.cells #[.int .i64 a0_0,.slice A0_1 l0_1.length c0_1] 26 (0,0)) Bx.1 hb);have mBr_:=qAm (blk_below (g:=gr) (o:=.cells #[.int .i64 0,.slice none 0 0] 26 (0,0)) Br.1 hb);have mHI_:=qAm (IsS52.below HI.1 hb);have mBW_:=qAm (below_step BW.1 hb);have mHB_:=qAm (below_step HB.1 hb);clear Bx Br HI BW HB;have Bx:=mBx_;have Br:=mBr_;have HI:=mHI_;have BW:=mBW_;have HB:=mHB_;clear mBx_ mBr_ mHI_ mBW_ mHB_;obtain⟨A7,c7,e7⟩:=Kd.R_slice ho;rw [List.length_map] at e7;subst e7;have HO7:=qAm (Kd.R_lower ho (below_size_ HBs.1));clear ho HBs;clear hb;have cw7x_0:w7.cell? ⟨gx,0,none⟩=some (.int .i64 a0_0):=(blk_cell Bx.1 0).trans rfl;have fw7x_0:=blk_frozen Bx.1 0;have cw7x_1:w7.cell? ⟨gx,1,none⟩=some (.slice A0_1 l0_1.length c0_1):=(blk_cell Bx.1 1).trans rfl;have fw7x_1:=blk_frozen Bx.1 1;have cw7r_0:w7.cell? ⟨gr,0,none⟩=some (.int .i64 0):=(blk_cell Br.1 0).trans rfl;have fw7r_0:=blk_frozen Br.1 0;have cw7r_1:w7.cell? ⟨gr,1,none⟩=some (.slice none 0 0):=(blk_cell Br.1 1).trans rfl;have fw7r_1:=blk_frozen Br.1 1));refine bodyPost_ret (results_ct rfl _ _ gr 26 #[.int .i64 0,.slice none 0 0] (0,0) _ rfl (blk_put (cs:=#[.int .i64 0,.slice none 0 0]) (blk_put (cs:=#[.int .i64 0,.slice none 0 0]) Br.1 0 (.int .i64 0) rfl) 1 (.slice none 0 0) rfl) Try.underlying26 rfl (by kernel_rfl)) rfl ?_;exact⟨.slice none 0 0,by first|rfl|(simp;done),Kd.R_nil _ _ _ _ _,below_set (below_set HB.1 Gr.1) Gr.1⟩
      |true=>
       have hQ':hf_pow o (n':Int) pw l0_1 m (S'.map (·.1))=some (q,b):=by simpa using hQ
       have HQ2:=qAm (show hf_pow o (n':Int) pw l0_1 (a1.toNat - (i+1)) (S'.map (·.1))=some (q,b) by rw [show a1.toNat - (i+1)=m by omega];exact hQ');clear hQ hQ' HQ;go_wp2_with (first|(go_at_call 41;have HBs:=HB;refine(himg_times HI.1 (by omega) (Kd.R_reads' HO.1).2.2 (Kd.C_below HR0.1 HB.1) HS.1 hok BW.1).mono ?_;rintro e w7 ⟨v7,rfl,ho,hb⟩;have mBx_:=qAm (blk_below (g:=gx) (o:=.cells #[.int .i64 a0_0,.slice A0_1 l0_1.length c0_1] 26 (0,0)) Bx.1 hb);have mBr_:=qAm (blk_below (g:=gr) (o:=.cells #[.int .i64 0,.slice none 0 0] 26 (0,0)) Br.1 hb);have mHI_:=qAm (IsS52.below HI.1 hb);have mBW_:=qAm (below_step BW.1 hb);have mHB_:=qAm (below_step HB.1 hb);clear Bx Br HI BW HB;have Bx:=mBx_;have Br:=mBr_;have HI:=mHI_;have BW:=mBW_;have HB:=mHB_;clear mBx_ mBr_ mHI_ mBW_ mHB_;obtain⟨A7,c7,e7⟩:=Kd.R_slice ho;rw [List.length_map] at e7;subst e7;have HO7:=qAm (Kd.R_lower ho (below_size_ HBs.1));clear ho HBs;clear hb;have cw7x_0:w7.cell? ⟨gx,0,none⟩=some (.int .i64 a0_0):=(blk_cell Bx.1 0).trans rfl;have fw7x_0:=blk_frozen Bx.1 0;have cw7x_1:w7.cell? ⟨gx,1,none⟩=some (.slice A0_1 l0_1.length c0_1):=(blk_cell Bx.1 1).trans rfl;have fw7x_1:=blk_frozen Bx.1 1;have cw7r_0:w7.cell? ⟨gr,0,none⟩=some (.int .i64 0):=(blk_cell Br.1 0).trans rfl;have fw7r_0:=blk_frozen Br.1 0;have cw7r_1:w7.cell? ⟨gr,1,none⟩=some (.slice none 0 0):=(blk_cell Br.1 1).trans rfl;have fw7r_1:=blk_frozen Br.1 1));go_roundg (gk - 1)
       case measure=>have:=HA.1;omega
       case rel=>exact⟨i+1,S'.map (·.1),by go_num,⟨by have:=HA.1;omega,by omega⟩,HQ2,HO7,HI,BW,HB,Bx,Br⟩
     ·rw [if_neg hn] at hS';cases hS'
    ·have e:i=a1.toNat:=by have:=HA.1;omega
     have hge:¬((i:Int)<a1):=by omega
     have hQ:=HQ.1;rw [show a1.toNat - i=0 by omega] at hQ;simp only [hf_pow,Option.some.injEq,Prod.mk.injEq] at hQ;obtain⟨rfl,rfl⟩:=hQ;have H:=HZ.1;simp only [if_true] at H;obtain⟨⟨u1,u2,u3⟩,A8,H⟩:=qOb H;simp only [Option.some.injEq,Prod.mk.injEq] at H;obtain⟨rfl,rfl,rfl⟩:=H;replace A8:=qAm A8;clear H;go_wp2_with (first|(go_at_call 42;refine(impl_cycloOf.calls a0_0 (fun k_=>some k_=(.slice Ao out.length co:Value).ownBlock) (.slice Ao out.length co) out _ _ _ w _ HB.1 (Kd.R_tight rfl HO.1) A8.1).mono ?_;rintro e w8 ⟨vc,rfl,ho0,hb,hkp⟩;have mBx_:=qAm (blk_kept Bx.1 hkp (fun hs_=>(fun e_=>(Kd.R_ne HO.1 Bx.1 (by decide)) e_) hs_));have mBr_:=qAm (blk_kept Br.1 hkp (fun hs_=>(fun e_=>(Kd.R_ne HO.1 Br.1 (by decide)) e_) hs_));clear Bx Br;have Bx:=mBx_;have Br:=mBr_;clear mBx_ mBr_;clear HO HB;have HO:=qAm (Kd.R_mono (ok':=fun k_=>True) ho0 (fun k_ hk_=>trivial));have HB:=qAm hb;obtain⟨Ac,cc,ec⟩:=Kd.R_slice HO.1;subst ec;clear ho0 hb hkp;have cw8x_0:w8.cell? ⟨gx,0,none⟩=some (.int .i64 a0_0):=(blk_cell Bx.1 0).trans rfl;have fw8x_0:=blk_frozen Bx.1 0;have cw8x_1:w8.cell? ⟨gx,1,none⟩=some (.slice A0_1 l0_1.length c0_1):=(blk_cell Bx.1 1).trans rfl;have fw8x_1:=blk_frozen Bx.1 1;have cw8r_0:w8.cell? ⟨gr,0,none⟩=some (.int .i64 0):=(blk_cell Br.1 0).trans rfl;have fw8r_0:=blk_frozen Br.1 0;have cw8r_1:w8.cell? ⟨gr,1,none⟩=some (.slice none 0 0):=(blk_cell Br.1 1).trans rfl;have fw8r_1:=blk_frozen Br.1 1));refine bodyPost_ret (results_ct rfl _ _ gr 26 #[.int .i64 u1,.slice Ac u2.length cc] (0,0) _ rfl (blk_put (cs:=#[.int .i64 u1,.slice none 0 0]) (blk_put (cs:=#[.int .i64 0,.slice none 0 0]) Br.1 0 (.int .i64 u1) rfl) 1 (.slice Ac u2.length cc) rfl) Try.underlying26 rfl (by kernel_rfl)) rfl ?_;exact⟨_,by first|rfl|(simp;done),Kd.R_mono (Kd.R_far (p:=⟨gr,1,none⟩) (Kd.R_far (p:=⟨gr,0,none⟩) (Kd.R_types HO.1 Br.1 (by decide)) (fun _ hk=>hk.2) (.int .i64 u1)) (fun _ hk=>hk.2) (.slice Ac u2.length cc)) (fun _ hk=>trivial),below_set (below_set HB.1 Gr.1) Gr.1⟩
  ·rw [if_neg hk] at H;simp only [Option.some.injEq,Prod.mk.injEq] at H;obtain⟨rfl,rfl,rfl⟩:=H;have hwi:impl_within.f a1 0 64=some false:=by
    unfold impl_within.f
    by_cases c:0≤a1
    ·rw [if_pos c];simp;omega
    ·rw [if_neg c]
   go_enter Try.func19,Try.ntmps19;go_wp2_with (first|((with_reducible refine gate_dst (N:=2) rfl ?_);refine box_event ?hg (N:=2) ?hd (cs:=#[.int .i64 a0_0,.slice A0_1 l0_1.length c0_1]) (t:=26) ?hr ?_;(case hd=>rfl);(case hg=>rfl);(case hr=>first|(go_simp;done)|(go_simp;rfl));intro gx hg wx hbox hb;have Gx:=qAm (by rw [hg];exact below_size HB.1:w.heap.size≤gx);have hgs_:=hg;have mHB_:=qAm (below_step HB.1 hb);clear HB;have HB:=mHB_;clear mHB_;have Bx:=qAm hbox;clear hbox;have cwxx_0:wx.cell? ⟨gx,0,none⟩=some (.int .i64 a0_0):=(blk_cell Bx.1 0).trans rfl;have fwxx_0:=blk_frozen Bx.1 0;have cwxx_1:wx.cell? ⟨gx,1,none⟩=some (.slice A0_1 l0_1.length c0_1):=(blk_cell Bx.1 1).trans rfl;have fwxx_1:=blk_frozen Bx.1 1;clear hb hg hgs_)|((with_reducible refine gate_dst (N:=4) rfl ?_);refine box_event ?hg (N:=4) ?hd (cs:=#[.int .i64 0,.slice none 0 0]) (t:=26) ?hr ?_;(case hd=>rfl);(case hg=>rfl);(case hr=>first|(go_simp;done)|(go_simp;rfl));intro gr hg wr hbox hb;have Gr:=qAm (by rw [hg];exact below_size HB.1:w.heap.size≤gr);have Nx_r:=qAm (by rw [hg];exact Nat.ne_of_lt (blk_lt (g:=gx) (o:=.cells #[.int .i64 a0_0,.slice A0_1 l0_1.length c0_1] 26 (0,0)) Bx.1):gx≠gr);have hgs_:=hg;have mBx_:=qAm (blk_below (g:=gx) (o:=.cells #[.int .i64 a0_0,.slice A0_1 l0_1.length c0_1] 26 (0,0)) Bx.1 hb);have mHB_:=qAm (below_step HB.1 hb);clear Bx HB;have Bx:=mBx_;have HB:=mHB_;clear mBx_ mHB_;have Br:=qAm hbox;clear hbox;have cwrx_0:wr.cell? ⟨gx,0,none⟩=some (.int .i64 a0_0):=(blk_cell Bx.1 0).trans rfl;have fwrx_0:=blk_frozen Bx.1 0;have cwrx_1:wr.cell? ⟨gx,1,none⟩=some (.slice A0_1 l0_1.length c0_1):=(blk_cell Bx.1 1).trans rfl;have fwrx_1:=blk_frozen Bx.1 1;have cwrr_0:wr.cell? ⟨gr,0,none⟩=some (.int .i64 0):=(blk_cell Br.1 0).trans rfl;have fwrr_0:=blk_frozen Br.1 0;have cwrr_1:wr.cell? ⟨gr,1,none⟩=some (.slice none 0 0):=(blk_cell Br.1 1).trans rfl;have fwrr_1:=blk_frozen Br.1 1;have nx_r:=Nx_r.1;have ox_r:=Nx_r.1.symm;clear hb hg hgs_)|(go_at_call 46;refine(impl_IsCyclo.calls k a0_0 _ _ l0_1 _ _ (Kd.C_below HR0.1 HB.1) HC0.1 A1.1).mono ?_;rintro e w2 ⟨rfl,hb⟩;have mBx_:=qAm (blk_below (g:=gx) (o:=.cells #[.int .i64 a0_0,.slice A0_1 l0_1.length c0_1] 26 (0,0)) Bx.1 hb);have mBr_:=qAm (blk_below (g:=gr) (o:=.cells #[.int .i64 0,.slice none 0 0] 26 (0,0)) Br.1 hb);have mHB_:=qAm (below_step HB.1 hb);clear Bx Br HB;have Bx:=mBx_;have Br:=mBr_;have HB:=mHB_;clear mBx_ mBr_ mHB_;clear hb;have cw2x_0:w2.cell? ⟨gx,0,none⟩=some (.int .i64 a0_0):=(blk_cell Bx.1 0).trans rfl;have fw2x_0:=blk_frozen Bx.1 0;have cw2x_1:w2.cell? ⟨gx,1,none⟩=some (.slice A0_1 l0_1.length c0_1):=(blk_cell Bx.1 1).trans rfl;have fw2x_1:=blk_frozen Bx.1 1;have cw2r_0:w2.cell? ⟨gr,0,none⟩=some (.int .i64 0):=(blk_cell Br.1 0).trans rfl;have fw2r_0:=blk_frozen Br.1 0;have cw2r_1:w2.cell? ⟨gr,1,none⟩=some (.slice none 0 0):=(blk_cell Br.1 1).trans rfl;have fw2r_1:=blk_frozen Br.1 1)|(go_at_call 47;refine(impl_within.calls a1 0 64 false _ hwi).mono ?_;rintro e w2b ⟨rfl,⟨nd,hnd⟩⟩;have hb:=(by rw [hnd];exact pw_below_drewN (Below.refl _ _) nd:Below w2.heap.size w2 w2b);have mBx_:=qAm (blk_below (g:=gx) (o:=.cells #[.int .i64 a0_0,.slice A0_1 l0_1.length c0_1] 26 (0,0)) Bx.1 hb);have mBr_:=qAm (blk_below (g:=gr) (o:=.cells #[.int .i64 0,.slice none 0 0] 26 (0,0)) Br.1 hb);have mHB_:=qAm (below_step HB.1 hb);clear Bx Br HB;have Bx:=mBx_;have Br:=mBr_;have HB:=mHB_;clear mBx_ mBr_ mHB_;clear hb hnd nd;have cw2bx_0:w2b.cell? ⟨gx,0,none⟩=some (.int .i64 a0_0):=(blk_cell Bx.1 0).trans rfl;have fw2bx_0:=blk_frozen Bx.1 0;have cw2bx_1:w2b.cell? ⟨gx,1,none⟩=some (.slice A0_1 l0_1.length c0_1):=(blk_cell Bx.1 1).trans rfl;have fw2bx_1:=blk_frozen Bx.1 1;have cw2br_0:w2b.cell? ⟨gr,0,none⟩=some (.int .i64 0):=(blk_cell Br.1 0).trans rfl;have fw2br_0:=blk_frozen Br.1 0;have cw2br_1:w2b.cell? ⟨gr,1,none⟩=some (.slice none 0 0):=(blk_cell Br.1 1).trans rfl;have fw2br_1:=blk_frozen Br.1 1));refine bodyPost_ret (results_ct rfl _ _ gr 26 #[.int .i64 0,.slice none 0 0] (0,0) _ rfl (blk_put (cs:=#[.int .i64 0,.slice none 0 0]) (blk_put (cs:=#[.int .i64 0,.slice none 0 0]) Br.1 0 (.int .i64 0) rfl) 1 (.slice none 0 0) rfl) Try.underlying26 rfl (by kernel_rfl)) rfl ?_;exact⟨.slice none 0 0,by first|rfl|(simp;done),Kd.R_nil _ _ _ _ _,below_set (below_set HB.1 Gr.1) Gr.1⟩

end Go.Proofs.Ythljmbobccaalaa.PFnExactPowerCyclo
