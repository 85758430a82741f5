/- The functions that the law reaches, as plain functions, each with the proof that the program comes to it; no condition. Written by a program of this session (wip/mp.py) over the printing of the kit; what is marked HAND is told by hand. -/
import Derived.Test.YtejpliodhnglbaaPFnExactGcdOfCubicsx0
import Derived.Test.YtejpliodhnglbaaPFnExactGcdOfCubicsx4
namespace Go.Proofs.Ytejpliodhnglbaa.PFnExactGcdOfCubics
open Go.RowKit Go.Proofs.YtejpliodhnglbaaW.PrintWords Go.Proofs.YtejpliodhnglbaaW.PrintLast Go.Proofs.YtejpliodhnglbaaW.PrintMore
attribute [local go_sem] max2_int min2_int max_two min_two max_three min_three max_four min_four   -- for this text's walks alone
set_option linter.unusedVariables false
set_option linter.unusedSimpArgs false

/-! ### spec_l09Chosen: function 59 -/
mutual
def spec_l09Chosen.l0:Nat→Int→List Int→Option (Int×List Int)
 |0,_,_=>none
 |k+1,x205000,x205001=>if 0<(x205001.length:Int) then (if (rd x205001 0)<1 then (spec_l09Chosen.j1 k true x205000 x205001) else (if 1<(x205001.length:Int) then (if (rd x205001 1)<0 then (spec_l09Chosen.j1 k true x205000 x205001) else (spec_l09Chosen.j1 k (decide ((rd x205001 1)≥(rd x205001 0))) x205000 x205001)) else (none))) else (none)
def spec_l09Chosen.j1:Nat→Bool→Int→List Int→Option (Int×List Int)
 |0,_,_,_=>none
 |k+1,x25,x205000,x205001=>if x25=true then ((spec_l09Of.f 1 1).bind fun bt210=>((spec_l09Times.f x205000 x205001 bt210.1 bt210.2).bind fun bt214=>(spec_l09Chosen.l0 k bt214.1 bt214.2))) else (if 0<(x205001.length:Int) then (if 1<(x205001.length:Int) then ((spec_l09Of.f (rd x205001 0) (rd x205001 1)).bind fun bt220=>(some (bt220.1,bt220.2))) else (none)) else (none))
end
def spec_l09Chosen.f (k:Nat) (a0_0:Int) (l0_1:List Int):Option (Int×List Int):=spec_l09Chosen.l0 k a0_0 l0_1
theorem spec_l09Chosen.mono_l:∀k,(∀y0 y1,LeO (spec_l09Chosen.l0 k y0 y1) (spec_l09Chosen.l0 (k+1) y0 y1))∧(∀y0 y1 y2,LeO (spec_l09Chosen.j1 k y0 y1 y2) (spec_l09Chosen.j1 (k+1) y0 y1 y2))
 |0=>⟨fun _ _ r h=>by simp [spec_l09Chosen.l0] at h,fun _ _ _ r h=>by simp [spec_l09Chosen.j1] at h⟩
 |k+1=>by
  obtain⟨ih0,ih1⟩:=spec_l09Chosen.mono_l k;refine⟨?_,?_⟩
  ·intro y0 y1;unfold spec_l09Chosen.l0;repeat' first
   |(with_reducible exact ih0 _ _)
   |(with_reducible exact ih1 _ _ _)
   |(with_reducible exact LeO.refl _)
   |(with_reducible exact LeO.none _)
   |(with_reducible refine LeO.ite ?_ ?_)
   |(with_reducible refine LeO.bind ?_ (fun _=>?_))
   |exact ih0 _ _
   |exact ih1 _ _ _
   |exact LeO.none _
   |refine LeO.ite ?_ ?_
   |refine LeO.bind ?_ (fun _=>?_)
  ·intro y0 y1 y2;unfold spec_l09Chosen.j1;repeat' first
   |(with_reducible exact ih0 _ _)
   |(with_reducible exact ih1 _ _ _)
   |(with_reducible exact LeO.refl _)
   |(with_reducible exact LeO.none _)
   |(with_reducible refine LeO.ite ?_ ?_)
   |(with_reducible refine LeO.bind ?_ (fun _=>?_))
   |exact ih0 _ _
   |exact ih1 _ _ _
   |exact LeO.none _
   |refine LeO.ite ?_ ?_
   |refine LeO.bind ?_ (fun _=>?_)
theorem spec_l09Chosen.mono:∀a0 a1 k,LeO (spec_l09Chosen.f k a0 a1) (spec_l09Chosen.f (k+1) a0 a1):=by
 intro a0 a1 k;obtain⟨ih0,ih1⟩:=spec_l09Chosen.mono_l k;unfold spec_l09Chosen.f;repeat' first
   |(with_reducible exact ih0 _ _)
   |(with_reducible exact ih1 _ _ _)
   |(with_reducible exact LeO.refl _)
   |(with_reducible exact LeO.none _)
   |(with_reducible refine LeO.ite ?_ ?_)
   |(with_reducible refine LeO.bind ?_ (fun _=>?_))
   |exact ih0 _ _
   |exact ih1 _ _ _
   |exact LeO.none _
   |refine LeO.ite ?_ ?_
   |refine LeO.bind ?_ (fun _=>?_)
def spec_l09Chosen.T1:Bool×List (List Nat×List Nat):=(true,[([],[]),([0],[0]),([1],[1]),([2],[2]),([3],[3]),([4],[4]),([5],[5]),([6,5],[5,6]),([7,5],[5,7]),([8,5],[5,8]),([9,5],[5,9]),([5,10],[5,10]),([11,5],[11]),([12],[12]),([13,12],[12,13]),([14,12],[12,14]),([15,12],[12,15]),([12],[12]),([17,12],[12,17]),([18,12],[12,18]),([19,12],[12,19]),([16,20,12],[12,16,20]),([12,21],[12,21])])
def spec_l09Chosen.B1:List Nat:=[0,1,3,7,15,31,63,127,255,511,1023,2047,4095,8191,16383,32767,65535,8191,139263,401407,925695,2097151,4194303]
theorem spec_l09Chosen.tab1:rtab .any (opsOf Try.f59 1)=spec_l09Chosen.T1:=by kernel_rfl
theorem spec_l09Chosen.bits1:waitsOk spec_l09Chosen.T1.2 spec_l09Chosen.B1=true:=by kernel_rfl
def spec_l09Chosen.T3:Bool×List (List Nat×List Nat):=(true,[([],[]),([0],[0]),([1],[1]),([2],[2]),([],[]),([4],[4]),([5],[5]),([6],[6]),([3,7],[3,7]),([8,8,0,1,2,3,4,5,6,7,8],[8])])
def spec_l09Chosen.B3:List Nat:=[0,1,3,7,0,16,48,112,255,511]
theorem spec_l09Chosen.tab3:rtab .any (opsOf Try.f59 3)=spec_l09Chosen.T3:=by kernel_rfl
theorem spec_l09Chosen.bits3:waitsOk spec_l09Chosen.T3.2 spec_l09Chosen.B3=true:=by kernel_rfl
set_option maxHeartbeats 8000000 in
set_option maxRecDepth 100000 in
theorem spec_l09Chosen.calls (k:Nat) (a0_0:Int) (P0_1_:Nat→Prop) (A0_1:Option Addr) (c0_1:Nat) (l0_1:List Int) (r1:Int) (r2:List Int) (w:World) (hs0_1:Kd.V (Kd.int .i64) 2 w w.heap.size (fun k_=>P0_1_ k_) (.slice A0_1 l0_1.length c0_1) l0_1) (h:spec_l09Chosen.f k a0_0 l0_1=some (r1,r2)):
  Calls Try.prog 59 #[.agg #[.int .i64 a0_0,.slice A0_1 l0_1.length c0_1]] w fun e w'=>∃v1_:Value,e=.returned (.agg #[.int .i64 r1,v1_])∧Kd.R (Kd.int .i64) 2 w' w.heap.size (fun k_=>(w.heap.size≤k_)) v1_ r2∧Below w.heap.size w w':=by
 have hu26:=Try.underlying26;have HO0_1:=qAm (show Kd.V (Kd.int .i64) 2 w w.heap.size (fun k_=>(P0_1_ k_∨w.heap.size≤k_)) (.slice A0_1 l0_1.length c0_1) l0_1 from Kd.V_mono hs0_1 (fun k_ hk=>.inl hk));have HB:=qAm (Below.refl w.heap.size w);have H:(spec_l09Chosen.l0 k a0_0 l0_1)=some (r1,r2):=h;clear h;have H':=qAm H;clear H;go_enter Try.func59,Try.ntmps59;go_wp2_with (first|((with_reducible refine gate_dst (N:=1) rfl ?_);refine box_event ?hg (N:=1) ?hd (cs:=#[.int .i64 a0_0,.slice A0_1 l0_1.length c0_1]) (t:=26) ?hr ?_;(case hd=>rfl);(case hg=>rfl);(case hr=>first|(go_simp;done)|(go_simp;rfl));intro gb204 hg w2 hbox hb;have n0_:=qAm (Kd.V_below (Kd.V_elderB qB192 gb204 (Nat.le_of_eq hg.symm)) hb);have n1_:=qAm (below_step qB115 hb);have n2_:=qAm (hbox);have n3_:=qAm ((by rw [hg];exact(below_size qB115):w.heap.size≤gb204));have n4_:=qAm ((by rw [hg];exact(below_size qB115):w.heap.size≤gb204));clear HO0_1;clear HB;have HO0_1:=n0_;have HB:=n1_;have BK204:=n2_;have GW204:=n3_;have GE204:=n4_;clear n0_ n1_ n2_ n3_ n4_;clear hb hbox hg)|((with_reducible refine gate_dst (N:=2) rfl ?_);refine box_event ?hg (N:=2) ?hd (cs:=#[.int .i64 0,.slice none 0 0]) (t:=26) ?hr ?_;(case hd=>rfl);(case hg=>rfl);(case hr=>first|(go_simp;done)|(go_simp;rfl));intro gb205 hg w3 hbox hb;have n0_:=qAm (Kd.V_below (Kd.V_elderB qB192 gb205 (Nat.le_of_eq hg.symm)) hb);have n1_:=qAm (blk_below (g:=gb204) (o:=.cells #[.int .i64 a0_0,.slice A0_1 l0_1.length c0_1] 26 (0,0)) qB133 hb);have n2_:=qAm (below_step qB92 hb);have n3_:=qAm (hbox);have n4_:=qAm ((by rw [hg];exact(below_size qB92):w.heap.size≤gb205));have n5_:=qAm ((by rw [hg];exact(below_size qB92):w.heap.size≤gb205));have n6_:=qAm ((by rw [hg];exact Nat.ne_of_lt (blk_lt (g:=gb204) (o:=.cells #[.int .i64 a0_0,.slice A0_1 l0_1.length c0_1] 26 (0,0)) qB133):gb204≠gb205));have n7_:=qAm ((by rw [hg];exact Nat.ne_of_gt (blk_lt (g:=gb204) (o:=.cells #[.int .i64 a0_0,.slice A0_1 l0_1.length c0_1] 26 (0,0)) qB133):gb205≠gb204));clear HO0_1;clear BK204;clear HB;have HO0_1:=n0_;have BK204:=n1_;have HB:=n2_;have BK205:=n3_;have GW205:=n4_;have GE205:=n5_;have NB204_205:=n6_;have NB205_204:=n7_;clear n0_ n1_ n2_ n3_ n4_ n5_ n6_ n7_;clear hb hbox hg));try simp only [Act.put,qSa,qSc,qSb]
 go_loopg [] k (fun kq w'=>∃(x205000_1:Int) (x205001_1:List Int) (u205001:Value),Aside0 (spec_l09Chosen.l0 kq x205000_1 x205001_1=some (r1,r2))∧Aside0 (kq≤k)∧Aside0 (Kd.V (Kd.int .i64) 2 w' w.heap.size (fun k_=>(P0_1_ k_∨w.heap.size≤k_)∧k_≠gb204∧k_≠gb205) u205001 x205001_1)∧Aside0 (w'.heap[gb204]? =some (.cells #[.int .i64 x205000_1,u205001] 26 (0,0)))∧Aside0 (w'.heap[gb205]? =some (.cells #[.int .i64 0,(.slice none 0 0)] 26 (0,0)))∧Aside0 (Below w.heap.size w w'))
 case atStart=>exact⟨(a0_0),(l0_1),(.slice A0_1 l0_1.length c0_1),H',⟨Nat.le_refl _⟩,⟨by (with_reducible repeat(first|apply Kd.V_alloc|apply Kd.V_drewN|apply Kd.V_drew));exact Kd.V_mono HO0_1.1 (fun _ hk=>⟨hk.1.1,⟨hk.1.2,hk.2⟩⟩)⟩,⟨by (with_reducible repeat(first|refine blk_drewN ?_ _|refine blk_drew ?_|refine blk_alloc ?_ _));exact BK204.1⟩,⟨by (with_reducible repeat(first|refine blk_drewN ?_ _|refine blk_drew ?_|refine blk_alloc ?_ _));exact BK205.1⟩,⟨by repeat(first|(with_reducible first|exact HB.1|apply below_alloc|apply pw_below_drewN|apply below_drew1|refine below_set ?_ GE204.1|refine below_set ?_ GE205.1)|exact HB.1)⟩⟩
 case round=>
  clear H';try clear p2
  obtain⟨x205000_1,x205001_1,u205001,HA,HK1,HO_205001,BK204,BK205,HB⟩:=hrel;cases gk with
  |zero=>exact absurd HA.1 (by simp [spec_l09Chosen.l0])
  |succ k1=>
   have H:=HA.1;clear HA;simp only [spec_l09Chosen.l0] at H;have HC4:=qAm H;clear H;go_upto_region 1 with (fail)
   go_cut [25] (fun v25 wc=>∃(kq:Nat) (x25_3:Bool),v25=.bool x25_3∧Aside0 (spec_l09Chosen.j1 kq x25_3 x205000_1 x205001_1=some (r1,r2))∧Aside0 (kq≤k1)∧Aside0 (Kd.V (Kd.int .i64) 2 wc w.heap.size (fun k_=>(P0_1_ k_∨w.heap.size≤k_)∧k_≠gb204∧k_≠gb205) u205001 x205001_1)∧Aside0 (wc.heap[gb204]? =some (.cells #[.int .i64 x205000_1,u205001] 26 (0,0)))∧Aside0 (wc.heap[gb205]? =some (.cells #[.int .i64 0,(.slice none 0 0)] 26 (0,0)))∧Aside0 (Below w.heap.size w wc))
   case first=>
    have H:=HC4.1;clear HC4
    by_cases c5:0<(x205001_1.length:Int)
    ·rw [if_pos c5] at H;have c5b0:decide (0<(x205001_1.length:Int))=true:=decide_eq_true c5;have c5b1:decide (0<x205001_1.length)=true:=decide_eq_true (by omega);clear c5
     (first|rw [c5b0]|(simp only [i64_w,i32_w];rw [c5b0])|skip)
     by_cases c6:(rd x205001_1 0)<1
     ·rw [if_pos c6] at H;have c6b0:decide ((rd x205001_1 0)<1)=true:=decide_eq_true c6;clear c6;have H':=qAm H;clear H;try go_wp2
      have n0_:=qAm (Kd.V_drew HO_205001.1);have n1_:=qAm (blk_drew BK204.1);have n2_:=qAm (blk_drew BK205.1);have n3_:=qAm (below_drew1 HB.1);clear HO_205001 BK204 BK205 HB;have HO_205001:=n0_;have BK204:=n1_;have BK205:=n2_;have HB:=n3_;clear n0_ n1_ n2_ n3_;obtain⟨Ao8,co8,eo8⟩:=Kd.V_slice HO_205001.1
      (first|subst eo8|(injection eo8 with f1_ f2_ f3_;have f4_:=f1_.symm;have f5_:=f3_.symm;clear f1_ f2_ f3_;subst f4_;subst f5_))
      have p206:0≤(0:Int):=(by omega)
      have q206:0<(x205001_1.length:Int):=of_decide_eq_true qB222;obtain⟨ad206,e206,hx206_0⟩:=Kd.at_int (Kd.V_reads' HO_205001.1).2.2 0 p206 q206;cases e206
      have qi206:(0<x205001_1.length)=True:=eq_true (by omega)
      (try rw [show((0:Int)).toNat=0 from rfl] at hx206_0)
      (try rw [Addr.add_zero'] at hx206_0)
      replace p206:=eq_true p206;replace q206:=eq_true q206;refine start_ (n:=23) (S:=fun w'=>w'.cell? ⟨gb204,0,none⟩=some (.int .i64 x205000_1)∧w'.cell? ⟨gb204,1,none⟩=some (.slice (some ad206) x205001_1.length co8)∧w'.cell? ad206=some (.int .i64 (rd x205001_1 0))) (ds:=[]) #[false,false,false,false,false,false,false,false,false,false,false,false,false,false,false,false,false,false,false,false,false,false,false] (by kernel_rfl) rfl rfl ⟨(blk_cell BK204.1 0).trans rfl,(blk_cell BK204.1 1).trans rfl,hx206_0⟩ (fun hHeld=>?_);refine with_tabW spec_l09Chosen.tab1 spec_l09Chosen.bits1 (fun HT_ HW_=>?_);generalize wr.drew=w7 at HO_205001 BK204 BK205 HB hx206_0 hHeld ⊢;refine pure_ (i:=0) (N:=some 3) (v:=?_) (a':=?_) #[true,false,false,false,false,false,false,false,false,false,false,false,false,false,false,false,false,false,false,false,false,false,false] rfl rfl (any_of HT_.1 (by kernel_rfl)) (fun _ _ _ h=>h) (Or.inl ⟨by rfl,?_⟩) ?_ ?_;rotate_left
      ·intro w';go_simp;with_reducible rfl
      rotate_left
      ·simp only [Act.put,qSa,qSb,qSc,i64_w,i32_w];rfl
      refine take_ (i:=1) (N:=some 4) (v:=?_) (a':=?_) #[true,true,false,false,false,false,false,false,false,false,false,false,false,false,false,false,false,false,false,false,false,false,false] rfl rfl (take_ofW HT_.1 HW_.1 (by kernel_rfl)) (fun _ _ _ h=>h) (Or.inl ⟨by rfl,?_⟩) hHeld ?_ ?_;rotate_left
      ·rintro w' ⟨s0,s1,s2⟩;go_simp;with_reducible rfl
      rotate_left
      ·simp only [Act.put,qSa,qSb,qSc,i64_w,i32_w];rfl
      refine pure_ (i:=2) (N:=some 5) (v:=?_) (a':=?_) #[true,true,true,false,false,false,false,false,false,false,false,false,false,false,false,false,false,false,false,false,false,false,false] rfl rfl (any_of HT_.1 (by kernel_rfl)) (fun _ _ _ h=>h) (Or.inl ⟨by rfl,?_⟩) ?_ ?_;rotate_left
      ·intro w';go_simp;with_reducible rfl
      rotate_left
      ·simp only [Act.put,qSa,qSb,qSc,i64_w,i32_w];rfl
      refine take_ (i:=3) (N:=some 6) (v:=?_) (a':=?_) #[true,true,true,true,false,false,false,false,false,false,false,false,false,false,false,false,false,false,false,false,false,false,false] rfl rfl (take_ofW HT_.1 HW_.1 (by kernel_rfl)) (fun _ _ _ h=>h) (Or.inl ⟨by rfl,?_⟩) hHeld ?_ ?_;rotate_left
      ·rintro w' ⟨s0,s1,s2⟩;go_simp;with_reducible rfl
      rotate_left
      ·simp only [Act.put,qSa,qSb,qSc,i64_w,i32_w];rfl
      refine pure_ (i:=4) (N:=some 7) (v:=?_) (a':=?_) #[true,true,true,true,true,false,false,false,false,false,false,false,false,false,false,false,false,false,false,false,false,false,false] rfl rfl (any_of HT_.1 (by kernel_rfl)) (fun _ _ _ h=>h) (Or.inl ⟨by rfl,?_⟩) ?_ ?_;rotate_left
      ·intro w';go_simp;with_reducible rfl
      rotate_left
      ·simp only [Act.put,qSa,qSb,qSc,i64_w,i32_w];rfl
      refine pure_ (i:=5) (N:=some 8) (v:=?_) (a':=?_) #[true,true,true,true,true,true,false,false,false,false,false,false,false,false,false,false,false,false,false,false,false,false,false] rfl rfl (any_of HT_.1 (by kernel_rfl)) (fun _ _ _ h=>h) (Or.inl ⟨by rfl,?_⟩) ?_ ?_;rotate_left
      ·intro w';go_simp;with_reducible rfl
      rotate_left
      ·simp only [Act.put,qSa,qSb,qSc,i64_w,i32_w];rfl
      refine pure_ (i:=6) (N:=some 9) (v:=undef) (a':=?_) #[true,true,true,true,true,true,true,false,false,false,false,false,false,false,false,false,false,false,false,false,false,false,false] rfl rfl (any_of HT_.1 (by kernel_rfl)) (fun _ _ _ h=>h) (Or.inr ⟨by rfl,rfl⟩) ?_ ?_;rotate_left
      ·simp only [Act.put,qSa,qSb,qSc,i64_w,i32_w];rfl
      refine pure_ (i:=7) (N:=some 10) (v:=undef) (a':=?_) #[true,true,true,true,true,true,true,true,false,false,false,false,false,false,false,false,false,false,false,false,false,false,false] rfl rfl (any_of HT_.1 (by kernel_rfl)) (fun _ _ _ h=>h) (Or.inr ⟨by rfl,rfl⟩) ?_ ?_;rotate_left
      ·simp only [Act.put,qSa,qSb,qSc,i64_w,i32_w];rfl
      refine pure_ (i:=8) (N:=some 11) (v:=undef) (a':=?_) #[true,true,true,true,true,true,true,true,true,false,false,false,false,false,false,false,false,false,false,false,false,false,false] rfl rfl (any_of HT_.1 (by kernel_rfl)) (fun _ _ _ h=>h) (Or.inr ⟨by rfl,rfl⟩) ?_ ?_;rotate_left
      ·simp only [Act.put,qSa,qSb,qSc,i64_w,i32_w];rfl
      refine pure_ (i:=9) (N:=some 12) (v:=undef) (a':=?_) #[true,true,true,true,true,true,true,true,true,true,false,false,false,false,false,false,false,false,false,false,false,false,false] rfl rfl (any_of HT_.1 (by kernel_rfl)) (fun _ _ _ h=>h) (Or.inr ⟨by rfl,rfl⟩) ?_ ?_;rotate_left
      ·simp only [Act.put,qSa,qSb,qSc,i64_w,i32_w];rfl
      refine pure_ (i:=10) (N:=some 13) (v:=undef) (a':=?_) #[true,true,true,true,true,true,true,true,true,true,true,false,false,false,false,false,false,false,false,false,false,false,false] rfl rfl (any_of HT_.1 (by kernel_rfl)) (fun _ _ _ h=>h) (Or.inr ⟨by rfl,rfl⟩) ?_ ?_;rotate_left
      ·simp only [Act.put,qSa,qSb,qSc,i64_w,i32_w];rfl
      refine pure_ (i:=11) (N:=some 14) (v:=?_) (a':=?_) #[true,true,true,true,true,true,true,true,true,true,true,true,false,false,false,false,false,false,false,false,false,false,false] rfl rfl (any_of HT_.1 (by kernel_rfl)) (fun _ _ _ h=>h) (Or.inl ⟨by rfl,?_⟩) ?_ ?_;rotate_left
      ·intro w';go_simp;with_reducible rfl
      rotate_left
      ·simp only [Act.put,qSa,qSb,qSc,i64_w,i32_w];rfl
      refine pure_ (i:=12) (N:=some 15) (v:=?_) (a':=?_) #[true,true,true,true,true,true,true,true,true,true,true,true,true,false,false,false,false,false,false,false,false,false,false] rfl rfl (any_of HT_.1 (by kernel_rfl)) (fun _ _ _ h=>h) (Or.inl ⟨by rfl,?_⟩) ?_ ?_;rotate_left
      ·intro w';go_simp;with_reducible rfl
      rotate_left
      ·simp only [Act.put,qSa,qSb,qSc,i64_w,i32_w];rfl
      refine pure_ (i:=13) (N:=some 16) (v:=undef) (a':=?_) #[true,true,true,true,true,true,true,true,true,true,true,true,true,true,false,false,false,false,false,false,false,false,false] rfl rfl (any_of HT_.1 (by kernel_rfl)) (fun _ _ _ h=>h) (Or.inr ⟨by rfl,rfl⟩) ?_ ?_;rotate_left
      ·simp only [Act.put,qSa,qSb,qSc,i64_w,i32_w];rfl
      refine pure_ (i:=14) (N:=some 17) (v:=undef) (a':=?_) #[true,true,true,true,true,true,true,true,true,true,true,true,true,true,true,false,false,false,false,false,false,false,false] rfl rfl (any_of HT_.1 (by kernel_rfl)) (fun _ _ _ h=>h) (Or.inr ⟨by rfl,rfl⟩) ?_ ?_;rotate_left
      ·simp only [Act.put,qSa,qSb,qSc,i64_w,i32_w];rfl
      refine pure_ (i:=15) (N:=some 18) (v:=undef) (a':=?_) #[true,true,true,true,true,true,true,true,true,true,true,true,true,true,true,true,false,false,false,false,false,false,false] rfl rfl (any_of HT_.1 (by kernel_rfl)) (fun _ _ _ h=>h) (Or.inr ⟨by rfl,rfl⟩) ?_ ?_;rotate_left
      ·simp only [Act.put,qSa,qSb,qSc,i64_w,i32_w];rfl
      refine pure_ (i:=16) (N:=some 19) (v:=undef) (a':=?_) #[true,true,true,true,true,true,true,true,true,true,true,true,true,true,true,true,true,false,false,false,false,false,false] rfl rfl (any_of HT_.1 (by kernel_rfl)) (fun _ _ _ h=>h) (Or.inr ⟨by rfl,rfl⟩) ?_ ?_;rotate_left
      ·simp only [Act.put,qSa,qSb,qSc,i64_w,i32_w];rfl
      refine pure_ (i:=17) (N:=some 20) (v:=undef) (a':=?_) #[true,true,true,true,true,true,true,true,true,true,true,true,true,true,true,true,true,true,false,false,false,false,false] rfl rfl (any_of HT_.1 (by kernel_rfl)) (fun _ _ _ h=>h) (Or.inr ⟨by rfl,rfl⟩) ?_ ?_;rotate_left
      ·simp only [Act.put,qSa,qSb,qSc,i64_w,i32_w];rfl
      refine pure_ (i:=18) (N:=some 21) (v:=undef) (a':=?_) #[true,true,true,true,true,true,true,true,true,true,true,true,true,true,true,true,true,true,true,false,false,false,false] rfl rfl (any_of HT_.1 (by kernel_rfl)) (fun _ _ _ h=>h) (Or.inr ⟨by rfl,rfl⟩) ?_ ?_;rotate_left
      ·simp only [Act.put,qSa,qSb,qSc,i64_w,i32_w];rfl
      refine pure_ (i:=19) (N:=some 22) (v:=undef) (a':=?_) #[true,true,true,true,true,true,true,true,true,true,true,true,true,true,true,true,true,true,true,true,false,false,false] rfl rfl (any_of HT_.1 (by kernel_rfl)) (fun _ _ _ h=>h) (Or.inr ⟨by rfl,rfl⟩) ?_ ?_;rotate_left
      ·simp only [Act.put,qSa,qSb,qSc,i64_w,i32_w];rfl
      refine pure_ (i:=20) (N:=some 23) (v:=undef) (a':=?_) #[true,true,true,true,true,true,true,true,true,true,true,true,true,true,true,true,true,true,true,true,true,false,false] rfl rfl (any_of HT_.1 (by kernel_rfl)) (fun _ _ _ h=>h) (Or.inr ⟨by rfl,rfl⟩) ?_ ?_;rotate_left
      ·simp only [Act.put,qSa,qSb,qSc,i64_w,i32_w];rfl
      refine pure_ (i:=21) (N:=some 24) (v:=undef) (a':=?_) #[true,true,true,true,true,true,true,true,true,true,true,true,true,true,true,true,true,true,true,true,true,true,false] rfl rfl (any_of HT_.1 (by kernel_rfl)) (fun _ _ _ h=>h) (Or.inr ⟨by rfl,rfl⟩) ?_ ?_;rotate_left
      ·simp only [Act.put,qSa,qSb,qSc,i64_w,i32_w];rfl
      refine pure_ (i:=22) (N:=some 25) (v:=?_) (a':=?_) #[true,true,true,true,true,true,true,true,true,true,true,true,true,true,true,true,true,true,true,true,true,true,true] rfl rfl (any_of HT_.1 (by kernel_rfl)) (fun _ _ _ h=>h) (Or.inl ⟨by rfl,?_⟩) ?_ ?_;rotate_left
      ·intro w';go_simp;with_reducible rfl
      rotate_left
      ·simp only [Act.put,qSa,qSb,qSc,i64_w,i32_w];rfl
      refine done_ (done_of HT_.1 (by kernel_rfl)) ?_;try go_wp2
      go_meet
      case rel=>exact⟨_,(true),qB223,H',⟨by have:=HK1.1;first|omega|exact Nat.le_refl _⟩,⟨by (with_reducible repeat(first|apply Kd.V_alloc|apply Kd.V_drewN|apply Kd.V_drew));exact HO_205001.1⟩,⟨by (with_reducible repeat(first|refine blk_drewN ?_ _|refine blk_drew ?_|refine blk_alloc ?_ _));exact BK204.1⟩,⟨by (with_reducible repeat(first|refine blk_drewN ?_ _|refine blk_drew ?_|refine blk_alloc ?_ _));exact BK205.1⟩,⟨by repeat(first|(with_reducible first|exact HB.1|apply below_alloc|apply pw_below_drewN|apply below_drew1|refine below_set ?_ GE204.1|refine below_set ?_ GE205.1)|exact HB.1)⟩⟩
     ·rw [if_neg c6] at H;have c6b0:decide ((rd x205001_1 0)<1)=false:=decide_eq_false c6;clear c6
      by_cases c9:1<(x205001_1.length:Int)
      ·rw [if_pos c9] at H;have c9b0:decide (1<(x205001_1.length:Int))=true:=decide_eq_true c9;have c9b1:decide (1<x205001_1.length)=true:=decide_eq_true (by omega);clear c9
       by_cases c10:(rd x205001_1 1)<0
       ·rw [if_pos c10] at H;have c10b0:decide ((rd x205001_1 1)<0)=true:=decide_eq_true c10;clear c10;have H':=qAm H;clear H;try go_wp2
        have n0_:=qAm (Kd.V_drew HO_205001.1);have n1_:=qAm (blk_drew BK204.1);have n2_:=qAm (blk_drew BK205.1);have n3_:=qAm (below_drew1 HB.1);clear HO_205001 BK204 BK205 HB;have HO_205001:=n0_;have BK204:=n1_;have BK205:=n2_;have HB:=n3_;clear n0_ n1_ n2_ n3_;obtain⟨Ao12,co12,eo12⟩:=Kd.V_slice HO_205001.1
        (first|subst eo12|(injection eo12 with f1_ f2_ f3_;have f4_:=f1_.symm;have f5_:=f3_.symm;clear f1_ f2_ f3_;subst f4_;subst f5_))
        have p206:0≤(0:Int):=(by omega)
        have q206:0<(x205001_1.length:Int):=of_decide_eq_true qB222;obtain⟨ad206,e206,hx206_0⟩:=Kd.at_int (Kd.V_reads' HO_205001.1).2.2 0 p206 q206;cases e206
        have qi206:(0<x205001_1.length)=True:=eq_true (by omega)
        (try rw [show((0:Int)).toNat=0 from rfl] at hx206_0)
        (try rw [Addr.add_zero'] at hx206_0)
        replace p206:=eq_true p206;replace q206:=eq_true q206;have p207:0≤(1:Int):=(by omega)
        have q207:1<(x205001_1.length:Int):=of_decide_eq_true qB222;obtain⟨ad207,e207,hx207_0⟩:=Kd.at_int (Kd.V_reads' HO_205001.1).2.2 1 p207 q207;obtain rfl:ad206=ad207:=(by injection e207)
        (try simp only [show(1:Int).toNat=1 from rfl,Nat.reduceMul,Nat.reduceEqDiff,Go.Addr.add,↓reduceIte] at hx207_0)
        have qi207:(1<x205001_1.length)=True:=eq_true (by omega)
        (try rw [show((1:Int)).toNat=1 from rfl] at hx207_0)
        replace p207:=eq_true p207;replace q207:=eq_true q207;refine start_ (n:=23) (S:=fun w'=>w'.cell? ⟨gb204,0,none⟩=some (.int .i64 x205000_1)∧w'.cell? ⟨gb204,1,none⟩=some (.slice (some ad206) x205001_1.length co12)∧w'.cell? ad206=some (.int .i64 (rd x205001_1 0))∧w'.cell? ⟨ad206.block,ad206.off+1,none⟩=some (.int .i64 (rd x205001_1 1))) (ds:=[]) #[false,false,false,false,false,false,false,false,false,false,false,false,false,false,false,false,false,false,false,false,false,false,false] (by kernel_rfl) rfl rfl ⟨(blk_cell BK204.1 0).trans rfl,(blk_cell BK204.1 1).trans rfl,hx206_0,hx207_0⟩ (fun hHeld=>?_);refine with_tabW spec_l09Chosen.tab1 spec_l09Chosen.bits1 (fun HT_ HW_=>?_);generalize wr.drew=w11 at HO_205001 BK204 BK205 HB hx206_0 hx207_0 hHeld ⊢;refine pure_ (i:=0) (N:=some 3) (v:=?_) (a':=?_) #[true,false,false,false,false,false,false,false,false,false,false,false,false,false,false,false,false,false,false,false,false,false,false] rfl rfl (any_of HT_.1 (by kernel_rfl)) (fun _ _ _ h=>h) (Or.inl ⟨by rfl,?_⟩) ?_ ?_;rotate_left
        ·intro w';go_simp;with_reducible rfl
        rotate_left
        ·simp only [Act.put,qSa,qSb,qSc,i64_w,i32_w];rfl
        refine take_ (i:=1) (N:=some 4) (v:=?_) (a':=?_) #[true,true,false,false,false,false,false,false,false,false,false,false,false,false,false,false,false,false,false,false,false,false,false] rfl rfl (take_ofW HT_.1 HW_.1 (by kernel_rfl)) (fun _ _ _ h=>h) (Or.inl ⟨by rfl,?_⟩) hHeld ?_ ?_;rotate_left
        ·rintro w' ⟨s0,s1,s2,s3⟩;go_simp;with_reducible rfl
        rotate_left
        ·simp only [Act.put,qSa,qSb,qSc,i64_w,i32_w];rfl
        refine pure_ (i:=2) (N:=some 5) (v:=?_) (a':=?_) #[true,true,true,false,false,false,false,false,false,false,false,false,false,false,false,false,false,false,false,false,false,false,false] rfl rfl (any_of HT_.1 (by kernel_rfl)) (fun _ _ _ h=>h) (Or.inl ⟨by rfl,?_⟩) ?_ ?_;rotate_left
        ·intro w';go_simp;with_reducible rfl
        rotate_left
        ·simp only [Act.put,qSa,qSb,qSc,i64_w,i32_w];rfl
        refine take_ (i:=3) (N:=some 6) (v:=?_) (a':=?_) #[true,true,true,true,false,false,false,false,false,false,false,false,false,false,false,false,false,false,false,false,false,false,false] rfl rfl (take_ofW HT_.1 HW_.1 (by kernel_rfl)) (fun _ _ _ h=>h) (Or.inl ⟨by rfl,?_⟩) hHeld ?_ ?_;rotate_left
        ·rintro w' ⟨s0,s1,s2,s3⟩;go_simp;with_reducible rfl
        rotate_left
        ·simp only [Act.put,qSa,qSb,qSc,i64_w,i32_w];rfl
        refine pure_ (i:=4) (N:=some 7) (v:=?_) (a':=?_) #[true,true,true,true,true,false,false,false,false,false,false,false,false,false,false,false,false,false,false,false,false,false,false] rfl rfl (any_of HT_.1 (by kernel_rfl)) (fun _ _ _ h=>h) (Or.inl ⟨by rfl,?_⟩) ?_ ?_;rotate_left
        ·intro w';go_simp;with_reducible rfl
        rotate_left
        ·simp only [Act.put,qSa,qSb,qSc,i64_w,i32_w];rfl
        refine pure_ (i:=5) (N:=some 8) (v:=?_) (a':=?_) #[true,true,true,true,true,true,false,false,false,false,false,false,false,false,false,false,false,false,false,false,false,false,false] rfl rfl (any_of HT_.1 (by kernel_rfl)) (fun _ _ _ h=>h) (Or.inl ⟨by rfl,?_⟩) ?_ ?_;rotate_left
        ·intro w';go_simp;with_reducible rfl
        rotate_left
        ·simp only [Act.put,qSa,qSb,qSc,i64_w,i32_w];rfl
        refine pure_ (i:=6) (N:=some 9) (v:=?_) (a':=?_) #[true,true,true,true,true,true,true,false,false,false,false,false,false,false,false,false,false,false,false,false,false,false,false] rfl rfl (any_of HT_.1 (by kernel_rfl)) (fun _ _ _ h=>h) (Or.inl ⟨by rfl,?_⟩) ?_ ?_;rotate_left
        ·intro w';go_simp;with_reducible rfl
        rotate_left
        ·simp only [Act.put,qSa,qSb,qSc,i64_w,i32_w];rfl
        refine take_ (i:=7) (N:=some 10) (v:=?_) (a':=?_) #[true,true,true,true,true,true,true,true,false,false,false,false,false,false,false,false,false,false,false,false,false,false,false] rfl rfl (take_ofW HT_.1 HW_.1 (by kernel_rfl)) (fun _ _ _ h=>h) (Or.inl ⟨by rfl,?_⟩) hHeld ?_ ?_;rotate_left
        ·rintro w' ⟨s0,s1,s2,s3⟩;go_simp;with_reducible rfl
        rotate_left
        ·simp only [Act.put,qSa,qSb,qSc,i64_w,i32_w];rfl
        refine pure_ (i:=8) (N:=some 11) (v:=?_) (a':=?_) #[true,true,true,true,true,true,true,true,true,false,false,false,false,false,false,false,false,false,false,false,false,false,false] rfl rfl (any_of HT_.1 (by kernel_rfl)) (fun _ _ _ h=>h) (Or.inl ⟨by rfl,?_⟩) ?_ ?_;rotate_left
        ·intro w';go_simp;with_reducible rfl
        rotate_left
        ·simp only [Act.put,qSa,qSb,qSc,i64_w,i32_w];rfl
        refine take_ (i:=9) (N:=some 12) (v:=?_) (a':=?_) #[true,true,true,true,true,true,true,true,true,true,false,false,false,false,false,false,false,false,false,false,false,false,false] rfl rfl (take_ofW HT_.1 HW_.1 (by kernel_rfl)) (fun _ _ _ h=>h) (Or.inl ⟨by rfl,?_⟩) hHeld ?_ ?_;rotate_left
        ·rintro w' ⟨s0,s1,s2,s3⟩;go_simp;with_reducible rfl
        rotate_left
        ·simp only [Act.put,qSa,qSb,qSc,i64_w,i32_w];rfl
        refine pure_ (i:=10) (N:=some 13) (v:=?_) (a':=?_) #[true,true,true,true,true,true,true,true,true,true,true,false,false,false,false,false,false,false,false,false,false,false,false] rfl rfl (any_of HT_.1 (by kernel_rfl)) (fun _ _ _ h=>h) (Or.inl ⟨by rfl,?_⟩) ?_ ?_;rotate_left
        ·intro w';go_simp;with_reducible rfl
        rotate_left
        ·simp only [Act.put,qSa,qSb,qSc,i64_w,i32_w];rfl
        refine pure_ (i:=11) (N:=some 14) (v:=?_) (a':=?_) #[true,true,true,true,true,true,true,true,true,true,true,true,false,false,false,false,false,false,false,false,false,false,false] rfl rfl (any_of HT_.1 (by kernel_rfl)) (fun _ _ _ h=>h) (Or.inl ⟨by rfl,?_⟩) ?_ ?_;rotate_left
        ·intro w';go_simp;with_reducible rfl
        rotate_left
        ·simp only [Act.put,qSa,qSb,qSc,i64_w,i32_w];rfl
        refine pure_ (i:=12) (N:=some 15) (v:=?_) (a':=?_) #[true,true,true,true,true,true,true,true,true,true,true,true,true,false,false,false,false,false,false,false,false,false,false] rfl rfl (any_of HT_.1 (by kernel_rfl)) (fun _ _ _ h=>h) (Or.inl ⟨by rfl,?_⟩) ?_ ?_;rotate_left
        ·intro w';go_simp;with_reducible rfl
        rotate_left
        ·simp only [Act.put,qSa,qSb,qSc,i64_w,i32_w];rfl
        refine pure_ (i:=13) (N:=some 16) (v:=undef) (a':=?_) #[true,true,true,true,true,true,true,true,true,true,true,true,true,true,false,false,false,false,false,false,false,false,false] rfl rfl (any_of HT_.1 (by kernel_rfl)) (fun _ _ _ h=>h) (Or.inr ⟨by rfl,rfl⟩) ?_ ?_;rotate_left
        ·simp only [Act.put,qSa,qSb,qSc,i64_w,i32_w];rfl
        refine pure_ (i:=14) (N:=some 17) (v:=undef) (a':=?_) #[true,true,true,true,true,true,true,true,true,true,true,true,true,true,true,false,false,false,false,false,false,false,false] rfl rfl (any_of HT_.1 (by kernel_rfl)) (fun _ _ _ h=>h) (Or.inr ⟨by rfl,rfl⟩) ?_ ?_;rotate_left
        ·simp only [Act.put,qSa,qSb,qSc,i64_w,i32_w];rfl
        refine pure_ (i:=15) (N:=some 18) (v:=undef) (a':=?_) #[true,true,true,true,true,true,true,true,true,true,true,true,true,true,true,true,false,false,false,false,false,false,false] rfl rfl (any_of HT_.1 (by kernel_rfl)) (fun _ _ _ h=>h) (Or.inr ⟨by rfl,rfl⟩) ?_ ?_;rotate_left
        ·simp only [Act.put,qSa,qSb,qSc,i64_w,i32_w];rfl
        refine pure_ (i:=16) (N:=some 19) (v:=undef) (a':=?_) #[true,true,true,true,true,true,true,true,true,true,true,true,true,true,true,true,true,false,false,false,false,false,false] rfl rfl (any_of HT_.1 (by kernel_rfl)) (fun _ _ _ h=>h) (Or.inr ⟨by rfl,rfl⟩) ?_ ?_;rotate_left
        ·simp only [Act.put,qSa,qSb,qSc,i64_w,i32_w];rfl
        refine pure_ (i:=17) (N:=some 20) (v:=undef) (a':=?_) #[true,true,true,true,true,true,true,true,true,true,true,true,true,true,true,true,true,true,false,false,false,false,false] rfl rfl (any_of HT_.1 (by kernel_rfl)) (fun _ _ _ h=>h) (Or.inr ⟨by rfl,rfl⟩) ?_ ?_;rotate_left
        ·simp only [Act.put,qSa,qSb,qSc,i64_w,i32_w];rfl
        refine pure_ (i:=18) (N:=some 21) (v:=undef) (a':=?_) #[true,true,true,true,true,true,true,true,true,true,true,true,true,true,true,true,true,true,true,false,false,false,false] rfl rfl (any_of HT_.1 (by kernel_rfl)) (fun _ _ _ h=>h) (Or.inr ⟨by rfl,rfl⟩) ?_ ?_;rotate_left
        ·simp only [Act.put,qSa,qSb,qSc,i64_w,i32_w];rfl
        refine pure_ (i:=19) (N:=some 22) (v:=undef) (a':=?_) #[true,true,true,true,true,true,true,true,true,true,true,true,true,true,true,true,true,true,true,true,false,false,false] rfl rfl (any_of HT_.1 (by kernel_rfl)) (fun _ _ _ h=>h) (Or.inr ⟨by rfl,rfl⟩) ?_ ?_;rotate_left
        ·simp only [Act.put,qSa,qSb,qSc,i64_w,i32_w];rfl
        refine pure_ (i:=20) (N:=some 23) (v:=undef) (a':=?_) #[true,true,true,true,true,true,true,true,true,true,true,true,true,true,true,true,true,true,true,true,true,false,false] rfl rfl (any_of HT_.1 (by kernel_rfl)) (fun _ _ _ h=>h) (Or.inr ⟨by rfl,rfl⟩) ?_ ?_;rotate_left
        ·simp only [Act.put,qSa,qSb,qSc,i64_w,i32_w];rfl
        refine pure_ (i:=21) (N:=some 24) (v:=undef) (a':=?_) #[true,true,true,true,true,true,true,true,true,true,true,true,true,true,true,true,true,true,true,true,true,true,false] rfl rfl (any_of HT_.1 (by kernel_rfl)) (fun _ _ _ h=>h) (Or.inr ⟨by rfl,rfl⟩) ?_ ?_;rotate_left
        ·simp only [Act.put,qSa,qSb,qSc,i64_w,i32_w];rfl
        refine pure_ (i:=22) (N:=some 25) (v:=?_) (a':=?_) #[true,true,true,true,true,true,true,true,true,true,true,true,true,true,true,true,true,true,true,true,true,true,true] rfl rfl (any_of HT_.1 (by kernel_rfl)) (fun _ _ _ h=>h) (Or.inl ⟨by rfl,?_⟩) ?_ ?_;rotate_left
        ·intro w';go_simp;with_reducible rfl
        rotate_left
        ·simp only [Act.put,qSa,qSb,qSc,i64_w,i32_w];rfl
        refine done_ (done_of HT_.1 (by kernel_rfl)) ?_;try go_wp2
        go_meet
        case rel=>exact⟨_,(true),qB223,H',⟨by have:=HK1.1;first|omega|exact Nat.le_refl _⟩,⟨by (with_reducible repeat(first|apply Kd.V_alloc|apply Kd.V_drewN|apply Kd.V_drew));exact HO_205001.1⟩,⟨by (with_reducible repeat(first|refine blk_drewN ?_ _|refine blk_drew ?_|refine blk_alloc ?_ _));exact BK204.1⟩,⟨by (with_reducible repeat(first|refine blk_drewN ?_ _|refine blk_drew ?_|refine blk_alloc ?_ _));exact BK205.1⟩,⟨by repeat(first|(with_reducible first|exact HB.1|apply below_alloc|apply pw_below_drewN|apply below_drew1|refine below_set ?_ GE204.1|refine below_set ?_ GE205.1)|exact HB.1)⟩⟩
       ·rw [if_neg c10] at H;have c10b0:decide ((rd x205001_1 1)<0)=false:=decide_eq_false c10;clear c10;have H':=qAm H;clear H;try go_wp2
        have n0_:=qAm (Kd.V_drew HO_205001.1);have n1_:=qAm (blk_drew BK204.1);have n2_:=qAm (blk_drew BK205.1);have n3_:=qAm (below_drew1 HB.1);clear HO_205001 BK204 BK205 HB;have HO_205001:=n0_;have BK204:=n1_;have BK205:=n2_;have HB:=n3_;clear n0_ n1_ n2_ n3_;obtain⟨Ao14,co14,eo14⟩:=Kd.V_slice HO_205001.1
        (first|subst eo14|(injection eo14 with f1_ f2_ f3_;have f4_:=f1_.symm;have f5_:=f3_.symm;clear f1_ f2_ f3_;subst f4_;subst f5_))
        have p206:0≤(0:Int):=(by omega)
        have q206:0<(x205001_1.length:Int):=of_decide_eq_true qB222;obtain⟨ad206,e206,hx206_0⟩:=Kd.at_int (Kd.V_reads' HO_205001.1).2.2 0 p206 q206;cases e206
        have qi206:(0<x205001_1.length)=True:=eq_true (by omega)
        (try rw [show((0:Int)).toNat=0 from rfl] at hx206_0)
        (try rw [Addr.add_zero'] at hx206_0)
        replace p206:=eq_true p206;replace q206:=eq_true q206;have p207:0≤(1:Int):=(by omega)
        have q207:1<(x205001_1.length:Int):=of_decide_eq_true qB222;obtain⟨ad207,e207,hx207_0⟩:=Kd.at_int (Kd.V_reads' HO_205001.1).2.2 1 p207 q207;obtain rfl:ad206=ad207:=(by injection e207)
        (try simp only [show(1:Int).toNat=1 from rfl,Nat.reduceMul,Nat.reduceEqDiff,Go.Addr.add,↓reduceIte] at hx207_0)
        have qi207:(1<x205001_1.length)=True:=eq_true (by omega)
        (try rw [show((1:Int)).toNat=1 from rfl] at hx207_0)
        replace p207:=eq_true p207;replace q207:=eq_true q207;have p208:0≤(1:Int):=(by omega)
        have q208:1<(x205001_1.length:Int):=of_decide_eq_true qB222;obtain⟨ad208,e208,hx208_0⟩:=Kd.at_int (Kd.V_reads' HO_205001.1).2.2 1 p208 q208;obtain rfl:ad206=ad208:=(by injection e208)
        (try simp only [show(1:Int).toNat=1 from rfl,Nat.reduceMul,Nat.reduceEqDiff,Go.Addr.add,↓reduceIte] at hx208_0)
        have qi208:(1<x205001_1.length)=True:=eq_true (by omega)
        (try rw [show((1:Int)).toNat=1 from rfl] at hx208_0)
        replace p208:=eq_true p208;replace q208:=eq_true q208;have p209:0≤(0:Int):=(by omega)
        have q209:0<(x205001_1.length:Int):=of_decide_eq_true qB222;obtain⟨ad209,e209,hx209_0⟩:=Kd.at_int (Kd.V_reads' HO_205001.1).2.2 0 p209 q209;obtain rfl:ad206=ad209:=(by injection e209)
        have qi209:(0<x205001_1.length)=True:=eq_true (by omega)
        (try rw [show((0:Int)).toNat=0 from rfl] at hx209_0)
        (try rw [Addr.add_zero'] at hx209_0)
        replace p209:=eq_true p209;replace q209:=eq_true q209;refine start_ (n:=23) (S:=fun w'=>w'.cell? ⟨gb204,0,none⟩=some (.int .i64 x205000_1)∧w'.cell? ⟨gb204,1,none⟩=some (.slice (some ad206) x205001_1.length co14)∧w'.cell? ad206=some (.int .i64 (rd x205001_1 0))∧w'.cell? ⟨ad206.block,ad206.off+1,none⟩=some (.int .i64 (rd x205001_1 1))∧w'.cell? ⟨ad206.block,ad206.off+1,none⟩=some (.int .i64 (rd x205001_1 1))∧w'.cell? ad206=some (.int .i64 (rd x205001_1 0))) (ds:=[]) #[false,false,false,false,false,false,false,false,false,false,false,false,false,false,false,false,false,false,false,false,false,false,false] (by kernel_rfl) rfl rfl ⟨(blk_cell BK204.1 0).trans rfl,(blk_cell BK204.1 1).trans rfl,hx206_0,hx207_0,hx208_0,hx209_0⟩ (fun hHeld=>?_);refine with_tabW spec_l09Chosen.tab1 spec_l09Chosen.bits1 (fun HT_ HW_=>?_);generalize wr.drew=w13 at HO_205001 BK204 BK205 HB hx206_0 hx207_0 hx208_0 hx209_0 hHeld ⊢;refine pure_ (i:=0) (N:=some 3) (v:=?_) (a':=?_) #[true,false,false,false,false,false,false,false,false,false,false,false,false,false,false,false,false,false,false,false,false,false,false] rfl rfl (any_of HT_.1 (by kernel_rfl)) (fun _ _ _ h=>h) (Or.inl ⟨by rfl,?_⟩) ?_ ?_;rotate_left
        ·intro w';go_simp;with_reducible rfl
        rotate_left
        ·simp only [Act.put,qSa,qSb,qSc,i64_w,i32_w];rfl
        refine take_ (i:=1) (N:=some 4) (v:=?_) (a':=?_) #[true,true,false,false,false,false,false,false,false,false,false,false,false,false,false,false,false,false,false,false,false,false,false] rfl rfl (take_ofW HT_.1 HW_.1 (by kernel_rfl)) (fun _ _ _ h=>h) (Or.inl ⟨by rfl,?_⟩) hHeld ?_ ?_;rotate_left
        ·rintro w' ⟨s0,s1,s2,s3,s4,s5⟩;go_simp;with_reducible rfl
        rotate_left
        ·simp only [Act.put,qSa,qSb,qSc,i64_w,i32_w];rfl
        refine pure_ (i:=2) (N:=some 5) (v:=?_) (a':=?_) #[true,true,true,false,false,false,false,false,false,false,false,false,false,false,false,false,false,false,false,false,false,false,false] rfl rfl (any_of HT_.1 (by kernel_rfl)) (fun _ _ _ h=>h) (Or.inl ⟨by rfl,?_⟩) ?_ ?_;rotate_left
        ·intro w';go_simp;with_reducible rfl
        rotate_left
        ·simp only [Act.put,qSa,qSb,qSc,i64_w,i32_w];rfl
        refine take_ (i:=3) (N:=some 6) (v:=?_) (a':=?_) #[true,true,true,true,false,false,false,false,false,false,false,false,false,false,false,false,false,false,false,false,false,false,false] rfl rfl (take_ofW HT_.1 HW_.1 (by kernel_rfl)) (fun _ _ _ h=>h) (Or.inl ⟨by rfl,?_⟩) hHeld ?_ ?_;rotate_left
        ·rintro w' ⟨s0,s1,s2,s3,s4,s5⟩;go_simp;with_reducible rfl
        rotate_left
        ·simp only [Act.put,qSa,qSb,qSc,i64_w,i32_w];rfl
        refine pure_ (i:=4) (N:=some 7) (v:=?_) (a':=?_) #[true,true,true,true,true,false,false,false,false,false,false,false,false,false,false,false,false,false,false,false,false,false,false] rfl rfl (any_of HT_.1 (by kernel_rfl)) (fun _ _ _ h=>h) (Or.inl ⟨by rfl,?_⟩) ?_ ?_;rotate_left
        ·intro w';go_simp;with_reducible rfl
        rotate_left
        ·simp only [Act.put,qSa,qSb,qSc,i64_w,i32_w];rfl
        refine pure_ (i:=5) (N:=some 8) (v:=?_) (a':=?_) #[true,true,true,true,true,true,false,false,false,false,false,false,false,false,false,false,false,false,false,false,false,false,false] rfl rfl (any_of HT_.1 (by kernel_rfl)) (fun _ _ _ h=>h) (Or.inl ⟨by rfl,?_⟩) ?_ ?_;rotate_left
        ·intro w';go_simp;with_reducible rfl
        rotate_left
        ·simp only [Act.put,qSa,qSb,qSc,i64_w,i32_w];rfl
        refine pure_ (i:=6) (N:=some 9) (v:=?_) (a':=?_) #[true,true,true,true,true,true,true,false,false,false,false,false,false,false,false,false,false,false,false,false,false,false,false] rfl rfl (any_of HT_.1 (by kernel_rfl)) (fun _ _ _ h=>h) (Or.inl ⟨by rfl,?_⟩) ?_ ?_;rotate_left
        ·intro w';go_simp;with_reducible rfl
        rotate_left
        ·simp only [Act.put,qSa,qSb,qSc,i64_w,i32_w];rfl
        refine take_ (i:=7) (N:=some 10) (v:=?_) (a':=?_) #[true,true,true,true,true,true,true,true,false,false,false,false,false,false,false,false,false,false,false,false,false,false,false] rfl rfl (take_ofW HT_.1 HW_.1 (by kernel_rfl)) (fun _ _ _ h=>h) (Or.inl ⟨by rfl,?_⟩) hHeld ?_ ?_;rotate_left
        ·rintro w' ⟨s0,s1,s2,s3,s4,s5⟩;go_simp;with_reducible rfl
        rotate_left
        ·simp only [Act.put,qSa,qSb,qSc,i64_w,i32_w];rfl
        refine pure_ (i:=8) (N:=some 11) (v:=?_) (a':=?_) #[true,true,true,true,true,true,true,true,true,false,false,false,false,false,false,false,false,false,false,false,false,false,false] rfl rfl (any_of HT_.1 (by kernel_rfl)) (fun _ _ _ h=>h) (Or.inl ⟨by rfl,?_⟩) ?_ ?_;rotate_left
        ·intro w';go_simp;with_reducible rfl
        rotate_left
        ·simp only [Act.put,qSa,qSb,qSc,i64_w,i32_w];rfl
        refine take_ (i:=9) (N:=some 12) (v:=?_) (a':=?_) #[true,true,true,true,true,true,true,true,true,true,false,false,false,false,false,false,false,false,false,false,false,false,false] rfl rfl (take_ofW HT_.1 HW_.1 (by kernel_rfl)) (fun _ _ _ h=>h) (Or.inl ⟨by rfl,?_⟩) hHeld ?_ ?_;rotate_left
        ·rintro w' ⟨s0,s1,s2,s3,s4,s5⟩;go_simp;with_reducible rfl
        rotate_left
        ·simp only [Act.put,qSa,qSb,qSc,i64_w,i32_w];rfl
        refine pure_ (i:=10) (N:=some 13) (v:=?_) (a':=?_) #[true,true,true,true,true,true,true,true,true,true,true,false,false,false,false,false,false,false,false,false,false,false,false] rfl rfl (any_of HT_.1 (by kernel_rfl)) (fun _ _ _ h=>h) (Or.inl ⟨by rfl,?_⟩) ?_ ?_;rotate_left
        ·intro w';go_simp;with_reducible rfl
        rotate_left
        ·simp only [Act.put,qSa,qSb,qSc,i64_w,i32_w];rfl
        refine pure_ (i:=11) (N:=some 14) (v:=?_) (a':=?_) #[true,true,true,true,true,true,true,true,true,true,true,true,false,false,false,false,false,false,false,false,false,false,false] rfl rfl (any_of HT_.1 (by kernel_rfl)) (fun _ _ _ h=>h) (Or.inl ⟨by rfl,?_⟩) ?_ ?_;rotate_left
        ·intro w';go_simp;with_reducible rfl
        rotate_left
        ·simp only [Act.put,qSa,qSb,qSc,i64_w,i32_w];rfl
        refine pure_ (i:=12) (N:=some 15) (v:=?_) (a':=?_) #[true,true,true,true,true,true,true,true,true,true,true,true,true,false,false,false,false,false,false,false,false,false,false] rfl rfl (any_of HT_.1 (by kernel_rfl)) (fun _ _ _ h=>h) (Or.inl ⟨by rfl,?_⟩) ?_ ?_;rotate_left
        ·intro w';go_simp;with_reducible rfl
        rotate_left
        ·simp only [Act.put,qSa,qSb,qSc,i64_w,i32_w];rfl
        refine pure_ (i:=13) (N:=some 16) (v:=?_) (a':=?_) #[true,true,true,true,true,true,true,true,true,true,true,true,true,true,false,false,false,false,false,false,false,false,false] rfl rfl (any_of HT_.1 (by kernel_rfl)) (fun _ _ _ h=>h) (Or.inl ⟨by rfl,?_⟩) ?_ ?_;rotate_left
        ·intro w';go_simp;with_reducible rfl
        rotate_left
        ·simp only [Act.put,qSa,qSb,qSc,i64_w,i32_w];rfl
        refine pure_ (i:=17) (N:=some 20) (v:=?_) (a':=?_) #[true,true,true,true,true,true,true,true,true,true,true,true,true,true,false,false,false,true,false,false,false,false,false] rfl rfl (any_of HT_.1 (by kernel_rfl)) (fun _ _ _ h=>h) (Or.inl ⟨by rfl,?_⟩) ?_ ?_;rotate_left
        ·intro w';go_simp;with_reducible rfl
        rotate_left
        ·simp only [Act.put,qSa,qSb,qSc,i64_w,i32_w];rfl
        refine take_ (i:=14) (N:=some 17) (v:=?_) (a':=?_) #[true,true,true,true,true,true,true,true,true,true,true,true,true,true,true,false,false,true,false,false,false,false,false] rfl rfl (take_ofW HT_.1 HW_.1 (by kernel_rfl)) (fun _ _ _ h=>h) (Or.inl ⟨by rfl,?_⟩) hHeld ?_ ?_;rotate_left
        ·rintro w' ⟨s0,s1,s2,s3,s4,s5⟩;go_simp;with_reducible rfl
        rotate_left
        ·simp only [Act.put,qSa,qSb,qSc,i64_w,i32_w];rfl
        refine pure_ (i:=15) (N:=some 18) (v:=?_) (a':=?_) #[true,true,true,true,true,true,true,true,true,true,true,true,true,true,true,true,false,true,false,false,false,false,false] rfl rfl (any_of HT_.1 (by kernel_rfl)) (fun _ _ _ h=>h) (Or.inl ⟨by rfl,?_⟩) ?_ ?_;rotate_left
        ·intro w';go_simp;with_reducible rfl
        rotate_left
        ·simp only [Act.put,qSa,qSb,qSc,i64_w,i32_w];rfl
        refine take_ (i:=16) (N:=some 19) (v:=?_) (a':=?_) #[true,true,true,true,true,true,true,true,true,true,true,true,true,true,true,true,true,true,false,false,false,false,false] rfl rfl (take_ofW HT_.1 HW_.1 (by kernel_rfl)) (fun _ _ _ h=>h) (Or.inl ⟨by rfl,?_⟩) hHeld ?_ ?_;rotate_left
        ·rintro w' ⟨s0,s1,s2,s3,s4,s5⟩;go_simp;with_reducible rfl
        rotate_left
        ·simp only [Act.put,qSa,qSb,qSc,i64_w,i32_w];rfl
        refine take_ (i:=18) (N:=some 21) (v:=?_) (a':=?_) #[true,true,true,true,true,true,true,true,true,true,true,true,true,true,true,true,true,true,true,false,false,false,false] rfl rfl (take_ofW HT_.1 HW_.1 (by kernel_rfl)) (fun _ _ _ h=>h) (Or.inl ⟨by rfl,?_⟩) hHeld ?_ ?_;rotate_left
        ·rintro w' ⟨s0,s1,s2,s3,s4,s5⟩;go_simp;with_reducible rfl
        rotate_left
        ·simp only [Act.put,qSa,qSb,qSc,i64_w,i32_w];rfl
        refine pure_ (i:=19) (N:=some 22) (v:=?_) (a':=?_) #[true,true,true,true,true,true,true,true,true,true,true,true,true,true,true,true,true,true,true,true,false,false,false] rfl rfl (any_of HT_.1 (by kernel_rfl)) (fun _ _ _ h=>h) (Or.inl ⟨by rfl,?_⟩) ?_ ?_;rotate_left
        ·intro w';go_simp;with_reducible rfl
        rotate_left
        ·simp only [Act.put,qSa,qSb,qSc,i64_w,i32_w];rfl
        refine take_ (i:=20) (N:=some 23) (v:=?_) (a':=?_) #[true,true,true,true,true,true,true,true,true,true,true,true,true,true,true,true,true,true,true,true,true,false,false] rfl rfl (take_ofW HT_.1 HW_.1 (by kernel_rfl)) (fun _ _ _ h=>h) (Or.inl ⟨by rfl,?_⟩) hHeld ?_ ?_;rotate_left
        ·rintro w' ⟨s0,s1,s2,s3,s4,s5⟩;go_simp;with_reducible rfl
        rotate_left
        ·simp only [Act.put,qSa,qSb,qSc,i64_w,i32_w];rfl
        refine pure_ (i:=21) (N:=some 24) (v:=?_) (a':=?_) #[true,true,true,true,true,true,true,true,true,true,true,true,true,true,true,true,true,true,true,true,true,true,false] rfl rfl (any_of HT_.1 (by kernel_rfl)) (fun _ _ _ h=>h) (Or.inl ⟨by rfl,?_⟩) ?_ ?_;rotate_left
        ·intro w';go_simp;with_reducible rfl
        rotate_left
        ·simp only [Act.put,qSa,qSb,qSc,i64_w,i32_w];rfl
        refine pure_ (i:=22) (N:=some 25) (v:=?_) (a':=?_) #[true,true,true,true,true,true,true,true,true,true,true,true,true,true,true,true,true,true,true,true,true,true,true] rfl rfl (any_of HT_.1 (by kernel_rfl)) (fun _ _ _ h=>h) (Or.inl ⟨by rfl,?_⟩) ?_ ?_;rotate_left
        ·intro w';go_simp;with_reducible rfl
        rotate_left
        ·simp only [Act.put,qSa,qSb,qSc,i64_w,i32_w];rfl
        refine done_ (done_of HT_.1 (by kernel_rfl)) ?_;try go_wp2
        go_meet
        case rel=>exact⟨_,(decide ((rd x205001_1 1)≥(rd x205001_1 0))),qB223,H',⟨by have:=HK1.1;first|omega|exact Nat.le_refl _⟩,⟨by (with_reducible repeat(first|apply Kd.V_alloc|apply Kd.V_drewN|apply Kd.V_drew));exact HO_205001.1⟩,⟨by (with_reducible repeat(first|refine blk_drewN ?_ _|refine blk_drew ?_|refine blk_alloc ?_ _));exact BK204.1⟩,⟨by (with_reducible repeat(first|refine blk_drewN ?_ _|refine blk_drew ?_|refine blk_alloc ?_ _));exact BK205.1⟩,⟨by repeat(first|(with_reducible first|exact HB.1|apply below_alloc|apply pw_below_drewN|apply below_drew1|refine below_set ?_ GE204.1|refine below_set ?_ GE205.1)|exact HB.1)⟩⟩
      ·rw [if_neg c9] at H;exact absurd H (by simp)
    ·rw [if_neg c5] at H;exact absurd H (by simp)
   case rest=>
    clear HC4;try clear c1
    try clear p2
    try clear q2
    try clear hx2
    try clear qi2
    try clear c5
    try clear c6
    try clear c6b0
    try clear c9
    try clear c9b0
    try clear c9b1
    try clear c10
    try clear c10b0
    try clear hx206_0
    try clear hx207_0
    try clear hx208_0
    try clear hx209_0
    try clear p206
    try clear p207
    try clear p208
    try clear p209
    try clear q206
    try clear q207
    try clear q208
    try clear q209
    obtain⟨kq,x25_3,rfl,HA,HJ3,HO_205001,BK204,BK205,HB⟩:=hcut;cases kq with
    |zero=>exact absurd HA.1 (by simp [spec_l09Chosen.j1])
    |succ kj3=>
     have H:=HA.1;clear HA;simp only [spec_l09Chosen.j1] at H
     by_cases c15:x25_3=true
     ·subst c15;have H1:((spec_l09Of.f 1 1).bind fun bt210=>((spec_l09Times.f x205000_1 x205001_1 bt210.1 bt210.2).bind fun bt214=>(spec_l09Chosen.l0 kj3 bt214.1 bt214.2)))=some (r1,r2):=by rw [if_pos rfl] at H;exact H
      clear H;have H:=H1;clear H1;replace H:=qOb H;obtain⟨⟨t210,t211⟩,A160,H⟩:=H;replace H:((spec_l09Times.f x205000_1 x205001_1 t210 t211).bind fun bt214=>(spec_l09Chosen.l0 kj3 bt214.1 bt214.2))=some (r1,r2):=H;have A16:=qAm A160;clear A160;replace H:=qOb H;obtain⟨⟨t214,t215⟩,A170,H⟩:=H;replace H:(spec_l09Chosen.l0 kj3 t214 t215)=some (r1,r2):=H;have A17:=qAm A170;clear A170;have H':=qAm H;clear H;try go_wp2
      have n0_:=qAm (Kd.V_drew HO_205001.1);have n1_:=qAm (blk_drew BK204.1);have n2_:=qAm (blk_drew BK205.1);have n3_:=qAm (below_drew1 HB.1);clear HO_205001 BK204 BK205 HB;have HO_205001:=n0_;have BK204:=n1_;have BK205:=n2_;have HB:=n3_;clear n0_ n1_ n2_ n3_;refine start_ (n:=4) (S:=fun w'=>w'.cell? ⟨gb204,0,none⟩=some (.int .i64 x205000_1)∧w'.cell? ⟨gb204,1,none⟩=some (u205001)) (ds:=[3]) #[false,false,false,false] (by kernel_rfl) rfl rfl ⟨(blk_cell BK204.1 0).trans rfl,(blk_cell BK204.1 1).trans rfl⟩ (fun hHeld=>?_);generalize wc.drew=w18 at HO_205001 BK204 BK205 HB hHeld ⊢;refine take_ (i:=0) (N:=some 26) (v:=?_) (a':=?_) #[true,false,false,false] rfl rfl (by kernel_rfl) (fun _ _ _ h=>h) (Or.inl ⟨by rfl,?_⟩) hHeld ?_ ?_;rotate_left
      ·rintro w' ⟨s0,s1⟩;go_simp;with_reducible rfl
      rotate_left
      ·simp only [Act.put,qSa,qSb,qSc,i64_w,i32_w];rfl
      refine one_ (i:=1) (N:=some 27) #[true,true,false,false] rfl rfl (by kernel_rfl) (by decide) (fun K hK=>?_);refine goes_ Try.func53 (by kernel_rfl) rfl #[.int .i64 1,.int .i64 1] (by rfl) rfl rfl qB112 ?_;with_reducible refine(spec_l09Of.calls 1 1 t210 t211 _ A16.1).mono ?_
      rintro e w19 ⟨v212,rfl,ho0,hb⟩;refine⟨_,rfl,?_⟩;have n0_:=qAm (Kd.V_elder' qB176 (Kd.R_base ho0) hb);have n1_:=qAm (Kd.R_lower (Kd.R_newM (M:=fun k_=>(w.heap.size≤k_)) ho0 (below_size qB71) (fun k_ h_=>h_)) (below_size qB71));have n2_:=qAm (blk_below (g:=gb204) (o:=.cells #[.int .i64 x205000_1,u205001] 26 (0,0)) qB133 hb);have n3_:=qAm (blk_below (g:=gb205) (o:=.cells #[.int .i64 0,.slice none 0 0] 26 (0,0)) qB134 hb);have n4_:=qAm (below_step qB71 hb);clear HO_205001 BK204 BK205 HB;have HO_205001:=n0_;have HO213:=n1_;have BK204:=n2_;have BK205:=n3_;have HB:=n4_;clear n0_ n1_ n2_ n3_ n4_
      (try clear hb)
      (try clear hb2)
      (try clear hk)
      (try clear hi)
      (try clear ho0)
      obtain⟨Ao20,co20,eo20⟩:=Kd.V_slice HO_205001.1
      (first|subst eo20|(injection eo20 with f1_ f2_ f3_;have f4_:=f1_.symm;have f5_:=f3_.symm;clear f1_ f2_ f3_;subst f4_;subst f5_))
      obtain⟨Ao21,co21,eo21⟩:=Kd.R_slice HO213.1
      (first|subst eo21|(injection eo21 with f1_ f2_ f3_;have f4_:=f1_.symm;have f5_:=f3_.symm;clear f1_ f2_ f3_;subst f4_;subst f5_))
      refine hK.out _ _ ⟨(blk_cell BK204.1 0).trans rfl,(blk_cell BK204.1 1).trans rfl⟩ (fun hHeld=>?_);clear hK K;refine norm_ (a':=?_) ?_ ?_;rotate_left
      ·show Act.put _ (some 27) _=_
       simp only [Act.put,qSa,qSb,qSc,i64_w,i32_w];rfl
      refine one_ (i:=2) (N:=some 28) #[true,true,true,false] rfl rfl (by kernel_rfl) (by decide) (fun K hK=>?_);refine goes_ Try.func52 (by kernel_rfl) rfl #[.agg #[.int .i64 x205000_1,.slice Ao20 x205001_1.length co20],.agg #[.int .i64 t210,.slice Ao21 t211.length co21]] (by rfl) rfl rfl qB112 ?_;with_reducible refine(spec_l09Times.calls x205000_1 _ _ x205001_1 t210 _ _ t211 t214 t215 _ ?side1 ?side2 ?side3 ?side4 A17.1).mono ?_
      (case side1=>repeat(first|exact(Kd.V_reads' HO_205001.1).2.2|(with_reducible refine Kd.C_alloc ?_ _)|(with_reducible refine Kd.C_drewN ?_ _)|(with_reducible refine Kd.C_drew ?_)))
      (case side2=>exact(Kd.V_reads' HO_205001.1).2.1)
      (case side3=>repeat(first|exact(Kd.R_reads' HO213.1).2.2|(with_reducible refine Kd.C_alloc ?_ _)|(with_reducible refine Kd.C_drewN ?_ _)|(with_reducible refine Kd.C_drew ?_)))
      (case side4=>exact(Kd.R_reads' HO213.1).2.1)
      rintro e w22 ⟨v216,rfl,ho0,hb⟩;refine⟨_,rfl,?_⟩;have n0_:=qAm (Kd.V_elder' qB176 (Kd.R_base ho0) hb);have n1_:=qAm (Kd.R_elder' qB193 (Kd.R_base ho0) hb);have n2_:=qAm (Kd.R_lower (Kd.R_new' (Kd.R_newM (M:=fun k_=>(w.heap.size≤k_)) ho0 (below_size qB71) (fun k_ h_=>h_)) (Kd.R_lt qB193)) (below_size qB71));have n3_:=qAm (blk_below (g:=gb204) (o:=.cells #[.int .i64 x205000_1,.slice Ao20 x205001_1.length co20] 26 (0,0)) qB133 hb);have n4_:=qAm (blk_below (g:=gb205) (o:=.cells #[.int .i64 0,.slice none 0 0] 26 (0,0)) qB134 hb);have n5_:=qAm (below_step qB71 hb);clear HO_205001 HO213 BK204 BK205 HB;have HO_205001:=n0_;have HO213:=n1_;have HO217:=n2_;have BK204:=n3_;have BK205:=n4_;have HB:=n5_;clear n0_ n1_ n2_ n3_ n4_ n5_
      (try clear hb)
      (try clear hb2)
      (try clear hk)
      (try clear hi)
      (try clear ho0)
      obtain⟨Ao24,co24,eo24⟩:=Kd.R_slice HO217.1
      (first|subst eo24|(injection eo24 with f1_ f2_ f3_;have f4_:=f1_.symm;have f5_:=f3_.symm;clear f1_ f2_ f3_;subst f4_;subst f5_))
      refine hK.out _ _ ⟨(blk_cell BK204.1 0).trans rfl,(blk_cell BK204.1 1).trans rfl⟩ (fun hHeld=>?_);clear hK K;refine norm_ (a':=?_) ?_ ?_;rotate_left
      ·show Act.put _ (some 28) _=_
       simp only [Act.put,qSa,qSb,qSc,i64_w,i32_w];rfl
      refine last_ (i:=3) (N:=none) #[true,true,true,true] rfl rfl (by kernel_rfl) (by decide) (fun K hK=>?_);have hs23:w22.cell? ⟨gb204,0,none⟩=some (.int .i64 x205000_1):=(blk_cell BK204.1 0).trans rfl;have hfs23:=blk_frozen BK204.1 0;have hns23_1:=NB205_204.1;have hms23_1:=NB204_205.1;have hs25:w22.cell? ⟨gb204,1,none⟩=some (.slice Ao20 x205001_1.length co20):=(blk_cell BK204.1 1).trans rfl;have hfs25:=blk_frozen BK204.1 1;have hns25_1:=NB205_204.1;have hms25_1:=NB204_205.1;refine skip_ (w1:=?_) (by rfl) rfl ?_ ?_;rotate_left
      ·go_simp;rfl
      refine hK.out _ _ ?_;clear hK K;refine done_ (by kernel_rfl) ?_;try go_wp2
      (first|go_roundg kj3|((try simp only [add_plain] at *);go_roundg kj3))
      case measure=>have:=HK1.1;have:=HJ3.1;omega
      case rel=>exact⟨(t214),(t215),(.slice Ao24 t215.length co24),H',⟨by have:=HK1.1;have:=HJ3.1;omega⟩,⟨(by first|exact hand_V_orR qB12|exact(Kd.V_mono (Kd.R_V qB12) (fun k_ hk=>by first|exact⟨(.inr (hk.1)),hk.2⟩|exact(.inr (hk)))))⟩,⟨by (with_reducible repeat(first|refine blk_drewN ?_ _|refine blk_drew ?_|refine blk_alloc ?_ _));refine blk_put (cs:=#[.int .i64 t214,.slice Ao20 x205001_1.length co20]) ?_ 1 _ rfl;(with_reducible repeat(first|refine blk_drewN ?_ _|refine blk_drew ?_|refine blk_alloc ?_ _));refine blk_put (cs:=#[.int .i64 x205000_1,.slice Ao20 x205001_1.length co20]) ?_ 0 _ rfl;(with_reducible repeat(first|refine blk_drewN ?_ _|refine blk_drew ?_|refine blk_alloc ?_ _));exact BK204.1⟩,⟨by (with_reducible repeat(first|refine blk_drewN ?_ _|refine blk_drew ?_|refine blk_alloc ?_ _));refine blk_far ?_ NB205_204.1 _;(with_reducible repeat(first|refine blk_drewN ?_ _|refine blk_drew ?_|refine blk_alloc ?_ _));refine blk_far ?_ NB205_204.1 _;(with_reducible repeat(first|refine blk_drewN ?_ _|refine blk_drew ?_|refine blk_alloc ?_ _));exact BK205.1⟩,⟨by repeat(first|(with_reducible first|exact HB.1|apply below_alloc|apply pw_below_drewN|apply below_drew1|refine below_set ?_ GE204.1|refine below_set ?_ GE205.1)|exact HB.1)⟩⟩
     ·replace c15:=Bool.eq_false_iff.mpr c15;subst c15;have H1:(if 0<(x205001_1.length:Int) then (if 1<(x205001_1.length:Int) then ((spec_l09Of.f (rd x205001_1 0) (rd x205001_1 1)).bind fun bt220=>(some (bt220.1,bt220.2))) else (none)) else (none))=some (r1,r2):=by rw [if_neg (show ¬(false=true) by decide)] at H;exact H
      clear H;have H:=H1;clear H1
      by_cases c26:0<(x205001_1.length:Int)
      ·rw [if_pos c26] at H;have c26b0:decide (0<(x205001_1.length:Int))=true:=decide_eq_true c26;have c26b1:decide (0<x205001_1.length)=true:=decide_eq_true (by omega);clear c26
       by_cases c27:1<(x205001_1.length:Int)
       ·rw [if_pos c27] at H;have c27b0:decide (1<(x205001_1.length:Int))=true:=decide_eq_true c27;have c27b1:decide (1<x205001_1.length)=true:=decide_eq_true (by omega);clear c27;replace H:=qOb H;obtain⟨⟨t220,t221⟩,A280,H⟩:=H;replace H:(some (t220,t221))=some (r1,r2):=H;have A28:=qAm A280;clear A280;simp only [Option.some.injEq,Prod.mk.injEq] at H;obtain⟨rfl,rfl⟩:=H;try go_wp2
        have n0_:=qAm (Kd.V_drew HO_205001.1);have n1_:=qAm (blk_drew BK204.1);have n2_:=qAm (blk_drew BK205.1);have n3_:=qAm (below_drew1 HB.1);clear HO_205001 BK204 BK205 HB;have HO_205001:=n0_;have BK204:=n1_;have BK205:=n2_;have HB:=n3_;clear n0_ n1_ n2_ n3_;obtain⟨Ao30,co30,eo30⟩:=Kd.V_slice HO_205001.1
        (first|subst eo30|(injection eo30 with f1_ f2_ f3_;have f4_:=f1_.symm;have f5_:=f3_.symm;clear f1_ f2_ f3_;subst f4_;subst f5_))
        have p218:0≤(0:Int):=(by omega)
        have q218:0<(x205001_1.length:Int):=of_decide_eq_true qB222;obtain⟨ad218,e218,hx218_0⟩:=Kd.at_int (Kd.V_reads' HO_205001.1).2.2 0 p218 q218;cases e218
        have qi218:(0<x205001_1.length)=True:=eq_true (by omega)
        (try rw [show((0:Int)).toNat=0 from rfl] at hx218_0)
        (try rw [Addr.add_zero'] at hx218_0)
        replace p218:=eq_true p218;replace q218:=eq_true q218;have p219:0≤(1:Int):=(by omega)
        have q219:1<(x205001_1.length:Int):=of_decide_eq_true qB222;obtain⟨ad219,e219,hx219_0⟩:=Kd.at_int (Kd.V_reads' HO_205001.1).2.2 1 p219 q219;obtain rfl:ad218=ad219:=(by injection e219)
        (try simp only [show(1:Int).toNat=1 from rfl,Nat.reduceMul,Nat.reduceEqDiff,Go.Addr.add,↓reduceIte] at hx219_0)
        have qi219:(1<x205001_1.length)=True:=eq_true (by omega)
        (try rw [show((1:Int)).toNat=1 from rfl] at hx219_0)
        replace p219:=eq_true p219;replace q219:=eq_true q219;refine start_ (n:=10) (S:=fun w'=>w'.cell? ⟨gb204,0,none⟩=some (.int .i64 x205000_1)∧w'.cell? ⟨gb204,1,none⟩=some (.slice (some ad218) x205001_1.length co30)∧w'.cell? ad218=some (.int .i64 (rd x205001_1 0))∧w'.cell? ⟨ad218.block,ad218.off+1,none⟩=some (.int .i64 (rd x205001_1 1))) (ds:=[]) #[false,false,false,false,false,false,false,false,false,false] (by kernel_rfl) rfl rfl ⟨(blk_cell BK204.1 0).trans rfl,(blk_cell BK204.1 1).trans rfl,hx218_0,hx219_0⟩ (fun hHeld=>?_);refine with_tabW spec_l09Chosen.tab3 spec_l09Chosen.bits3 (fun HT_ HW_=>?_);generalize wc.drew=w29 at HO_205001 BK204 BK205 HB hx218_0 hx219_0 hHeld ⊢;refine pure_ (i:=0) (N:=some 29) (v:=?_) (a':=?_) #[true,false,false,false,false,false,false,false,false,false] rfl rfl (any_of HT_.1 (by kernel_rfl)) (fun _ _ _ h=>h) (Or.inl ⟨by rfl,?_⟩) ?_ ?_;rotate_left
        ·intro w';go_simp;with_reducible rfl
        rotate_left
        ·simp only [Act.put,qSa,qSb,qSc,i64_w,i32_w];rfl
        refine pure_ (i:=4) (N:=some 33) (v:=?_) (a':=?_) #[true,false,false,false,true,false,false,false,false,false] rfl rfl (any_of HT_.1 (by kernel_rfl)) (fun _ _ _ h=>h) (Or.inl ⟨by rfl,?_⟩) ?_ ?_;rotate_left
        ·intro w';go_simp;with_reducible rfl
        rotate_left
        ·simp only [Act.put,qSa,qSb,qSc,i64_w,i32_w];rfl
        refine take_ (i:=1) (N:=some 30) (v:=?_) (a':=?_) #[true,true,false,false,true,false,false,false,false,false] rfl rfl (take_ofW HT_.1 HW_.1 (by kernel_rfl)) (fun _ _ _ h=>h) (Or.inl ⟨by rfl,?_⟩) hHeld ?_ ?_;rotate_left
        ·rintro w' ⟨s0,s1,s2,s3⟩;go_simp;with_reducible rfl
        rotate_left
        ·simp only [Act.put,qSa,qSb,qSc,i64_w,i32_w];rfl
        refine pure_ (i:=2) (N:=some 31) (v:=?_) (a':=?_) #[true,true,true,false,true,false,false,false,false,false] rfl rfl (any_of HT_.1 (by kernel_rfl)) (fun _ _ _ h=>h) (Or.inl ⟨by rfl,?_⟩) ?_ ?_;rotate_left
        ·intro w';go_simp;with_reducible rfl
        rotate_left
        ·simp only [Act.put,qSa,qSb,qSc,i64_w,i32_w];rfl
        refine take_ (i:=3) (N:=some 32) (v:=?_) (a':=?_) #[true,true,true,true,true,false,false,false,false,false] rfl rfl (take_ofW HT_.1 HW_.1 (by kernel_rfl)) (fun _ _ _ h=>h) (Or.inl ⟨by rfl,?_⟩) hHeld ?_ ?_;rotate_left
        ·rintro w' ⟨s0,s1,s2,s3⟩;go_simp;with_reducible rfl
        rotate_left
        ·simp only [Act.put,qSa,qSb,qSc,i64_w,i32_w];rfl
        refine take_ (i:=5) (N:=some 34) (v:=?_) (a':=?_) #[true,true,true,true,true,true,false,false,false,false] rfl rfl (take_ofW HT_.1 HW_.1 (by kernel_rfl)) (fun _ _ _ h=>h) (Or.inl ⟨by rfl,?_⟩) hHeld ?_ ?_;rotate_left
        ·rintro w' ⟨s0,s1,s2,s3⟩;go_simp;with_reducible rfl
        rotate_left
        ·simp only [Act.put,qSa,qSb,qSc,i64_w,i32_w];rfl
        refine pure_ (i:=6) (N:=some 35) (v:=?_) (a':=?_) #[true,true,true,true,true,true,true,false,false,false] rfl rfl (any_of HT_.1 (by kernel_rfl)) (fun _ _ _ h=>h) (Or.inl ⟨by rfl,?_⟩) ?_ ?_;rotate_left
        ·intro w';go_simp;with_reducible rfl
        rotate_left
        ·simp only [Act.put,qSa,qSb,qSc,i64_w,i32_w];rfl
        refine take_ (i:=7) (N:=some 36) (v:=?_) (a':=?_) #[true,true,true,true,true,true,true,true,false,false] rfl rfl (take_ofW HT_.1 HW_.1 (by kernel_rfl)) (fun _ _ _ h=>h) (Or.inl ⟨by rfl,?_⟩) hHeld ?_ ?_;rotate_left
        ·rintro w' ⟨s0,s1,s2,s3⟩;go_simp;with_reducible rfl
        rotate_left
        ·simp only [Act.put,qSa,qSb,qSc,i64_w,i32_w];rfl
        refine one_ (i:=8) (N:=some 37) #[true,true,true,true,true,true,true,true,true,false] rfl rfl (one_of HT_.1 (by kernel_rfl)) (by decide) (fun K hK=>?_);refine goes_ Try.func53 (by kernel_rfl) rfl #[.int .i64 (rd x205001_1 0),.int .i64 (rd x205001_1 1)] (by rfl) rfl rfl qB112 ?_;with_reducible refine(spec_l09Of.calls (rd x205001_1 0) (rd x205001_1 1) t220 t221 _ A28.1).mono ?_
        rintro e w31 ⟨v222,rfl,ho0,hb⟩;have HS2_:=(hb.cell (World.block_lt_of_cell? _ _ (hHeld.2.2.1))).trans (hHeld.2.2.1);have HS3_:=(hb.cell (World.block_lt_of_cell? _ _ (hHeld.2.2.2))).trans (hHeld.2.2.2);refine⟨_,rfl,?_⟩;have n0_:=qAm (Kd.V_elder' qB176 (Kd.R_base ho0) hb);have n1_:=qAm (Kd.R_lower (Kd.R_newM (M:=fun k_=>(w.heap.size≤k_)) ho0 (below_size qB71) (fun k_ h_=>h_)) (below_size qB71));have n2_:=qAm (blk_below (g:=gb204) (o:=.cells #[.int .i64 x205000_1,.slice (some ad218) x205001_1.length co30] 26 (0,0)) qB133 hb);have n3_:=qAm (blk_below (g:=gb205) (o:=.cells #[.int .i64 0,.slice none 0 0] 26 (0,0)) qB134 hb);have n4_:=qAm (below_step qB71 hb);clear HO_205001 BK204 BK205 HB;have HO_205001:=n0_;have HO223:=n1_;have BK204:=n2_;have BK205:=n3_;have HB:=n4_;clear n0_ n1_ n2_ n3_ n4_
        (try clear hb)
        (try clear hb2)
        (try clear hk)
        (try clear hi)
        (try clear ho0)
        obtain⟨Ao33,co33,eo33⟩:=Kd.R_slice HO223.1
        (first|subst eo33|(injection eo33 with f1_ f2_ f3_;have f4_:=f1_.symm;have f5_:=f3_.symm;clear f1_ f2_ f3_;subst f4_;subst f5_))
        refine hK.out _ _ ⟨(blk_cell BK204.1 0).trans rfl,(blk_cell BK204.1 1).trans rfl,HS2_,HS3_⟩ (fun hHeld=>?_);clear hK K;refine norm_ (a':=?_) ?_ ?_;rotate_left
        ·show Act.put _ (some 37) _=_
         simp only [Act.put,qSa,qSb,qSc,i64_w,i32_w];rfl
        refine one_ (i:=9) (N:=none) #[true,true,true,true,true,true,true,true,true,true] rfl rfl (one_of HT_.1 (by kernel_rfl)) (by decide) (fun K hK=>?_);have hs32:w31.cell? ⟨gb205,0,none⟩=some (.int .i64 0):=(blk_cell BK205.1 0).trans rfl;have hfs32:=blk_frozen BK205.1 0;have hns32_0:=NB204_205.1;have hms32_0:=NB205_204.1;have hs34:w31.cell? ⟨gb205,1,none⟩=some (.slice none 0 0):=(blk_cell BK205.1 1).trans rfl;have hfs34:=blk_frozen BK205.1 1;have hns34_0:=NB204_205.1;have hms34_0:=NB205_204.1;refine skip_ (w1:=?_) (by rfl) rfl ?_ ?_;rotate_left
        ·go_simp;rfl
        refine hK.out _ _ ⟨((cell_far (p:=⟨gb205,_,none⟩) NB204_205.1 _).trans (((cell_far (p:=⟨gb205,_,none⟩) NB204_205.1 _).trans (hHeld.1)))),((cell_far (p:=⟨gb205,_,none⟩) NB204_205.1 _).trans (((cell_far (p:=⟨gb205,_,none⟩) NB204_205.1 _).trans (hHeld.2.1)))),((cell_far (p:=⟨gb205,_,none⟩) qB9 _).trans (((cell_far (p:=⟨gb205,_,none⟩) qB9 _).trans (hHeld.2.2.1)))),((cell_far (p:=⟨gb205,_,none⟩) qB9 _).trans (((cell_far (p:=⟨gb205,_,none⟩) qB9 _).trans (hHeld.2.2.2))))⟩ (fun hHeld=>?_);clear hK K;refine done_ (done_of HT_.1 (by kernel_rfl)) ?_;try go_wp2
        refine bodyPost_ret (results_cell_row rfl _ _ gb205 26 #[.int .i64 t220,.slice Ao33 t221.length co33] (0,0) _ rfl (by (with_reducible repeat(first|refine blk_drewN ?_ _|refine blk_drew ?_|refine blk_alloc ?_ _));refine blk_put (cs:=#[.int .i64 t220,.slice none 0 0]) ?_ 1 _ rfl;(with_reducible repeat(first|refine blk_drewN ?_ _|refine blk_drew ?_|refine blk_alloc ?_ _));refine blk_put (cs:=#[.int .i64 0,.slice none 0 0]) ?_ 0 _ rfl;(with_reducible repeat(first|refine blk_drewN ?_ _|refine blk_drew ?_|refine blk_alloc ?_ _));exact BK205.1) Try.underlying26 rfl (by kernel_rfl)) rfl ?_;exact⟨_,by first|rfl|(simp [errW_none,errW_some] <;> rfl)|(simp [*,errW_none,errW_some] <;> rfl),by (with_reducible repeat(first|apply Kd.R_alloc|apply Kd.R_drewN|apply Kd.R_drew));exact Kd.R_mono (Kd.R_far (p:=⟨gb205,1,none⟩) (Kd.R_far (p:=⟨gb205,0,none⟩) (Kd.R_types HO223.1 BK205.1 (by decide)) (fun _ hk=>hk.2) (.int .i64 t220)) (fun _ hk=>hk.2) (.slice Ao33 t221.length co33)) (fun _ hk=>hk.1.1),by repeat(first|(with_reducible first|exact HB.1|apply below_alloc|apply pw_below_drewN|apply below_drew1|refine below_set ?_ GE204.1|refine below_set ?_ GE205.1)|exact HB.1)⟩
       ·rw [if_neg c27] at H;exact absurd H (by simp)
      ·rw [if_neg c26] at H;exact absurd H (by simp)

end Go.Proofs.Ytejpliodhnglbaa.PFnExactGcdOfCubics
