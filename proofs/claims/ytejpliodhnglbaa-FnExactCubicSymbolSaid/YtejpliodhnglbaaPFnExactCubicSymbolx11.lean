/- The functions that the law reaches, as plain functions, each with the proof that the program comes to it; no condition. Written by a program of this session (wip/mp.py) over the printing of the kit; what is marked HAND is told by hand. -/
import Derived.Test.YtejpliodhnglbaaPFnExactCubicSymbolx0
import Derived.Test.YtejpliodhnglbaaPFnExactCubicSymbolx10
namespace Go.Proofs.Ytejpliodhnglbaa.PFnExactCubicSymbol
open Go.RowKit Go.Proofs.YtejpliodhnglbaaW.PrintWords Go.Proofs.YtejpliodhnglbaaW.PrintLast Go.Proofs.YtejpliodhnglbaaW.PrintMore
attribute [local go_sem] max2_int min2_int max_two min_two max_three min_three max_four min_four   -- for this text's walks alone
set_option linter.unusedVariables false
set_option linter.unusedSimpArgs false

/-! ### impl_cubicsOf: function 29 -/
def impl_cubicsOf.l0:Nat→List (S54)→List (S26)→Int→Int→Option ((List (S54))×Bool)
 |0,_,_,_,_=>none
 |k+1,x4,x8,x9,x10=>if x10<x9 then (if 0≤x10 then (if x10<(x8.length:Int) then ((impl_IsCubicNumber.f k ((rd_T26 x8 x10).f0) ((rd_T26 x8 x10).f1)).bind fun t366=>(if t366=true then (if 0<(((rd_T26 x8 x10).f1).length:Int) then (if 1<(((rd_T26 x8 x10).f1).length:Int) then (if x4.length<8796093022208 then (impl_cubicsOf.l0 k (x4 ++ [(⟨rd ((rd_T26 x8 x10).f1) 0,rd ((rd_T26 x8 x10).f1) 1⟩:S54)]) x8 x9 (wrap64 (x10+1))) else (none)) else (none)) else (none)) else (some (([]:List (S54)),false)))) else (none)) else (none)) else (some (x4,true))
def impl_cubicsOf.f (k:Nat) (l0:List (S26)):Option ((List (S54))×Bool):=impl_cubicsOf.l0 k (([]:List (S54))) l0 (l0.length:Int) 0
theorem impl_cubicsOf.mono_l:∀k,(∀y0 y1 y2 y3,LeO (impl_cubicsOf.l0 k y0 y1 y2 y3) (impl_cubicsOf.l0 (k+1) y0 y1 y2 y3))
 |0=>fun _ _ _ _ r h=>by simp [impl_cubicsOf.l0] at h
 |k+1=>by
  have ih0:=impl_cubicsOf.mono_l k
  ·intro y0 y1 y2 y3;unfold impl_cubicsOf.l0;repeat' first
   |(with_reducible exact ih0 _ _ _ _)
   |(with_reducible exact impl_IsCubicNumber.mono _ _ _)
   |(with_reducible exact LeO.refl _)
   |(with_reducible exact LeO.none _)
   |(with_reducible refine LeO.ite ?_ ?_)
   |(with_reducible refine LeO.bind ?_ (fun _=>?_))
   |exact ih0 _ _ _ _
   |exact impl_IsCubicNumber.mono _ _ _
   |exact LeO.none _
   |refine LeO.ite ?_ ?_
   |refine LeO.bind ?_ (fun _=>?_)
theorem impl_cubicsOf.mono:∀a0 k,LeO (impl_cubicsOf.f k a0) (impl_cubicsOf.f (k+1) a0):=by
 intro a0 k;have ih0:=impl_cubicsOf.mono_l k;unfold impl_cubicsOf.f;repeat' first
   |(with_reducible exact ih0 _ _ _ _)
   |(with_reducible exact impl_IsCubicNumber.mono _ _ _)
   |(with_reducible exact LeO.refl _)
   |(with_reducible exact LeO.none _)
   |(with_reducible refine LeO.ite ?_ ?_)
   |(with_reducible refine LeO.bind ?_ (fun _=>?_))
   |exact ih0 _ _ _ _
   |exact impl_IsCubicNumber.mono _ _ _
   |exact LeO.none _
   |refine LeO.ite ?_ ?_
   |refine LeO.bind ?_ (fun _=>?_)
def impl_cubicsOf.T7:Bool×List (List Nat×List Nat):=(true,[([],[]),([],[]),([1],[1]),([2],[2]),([3],[3]),([],[]),([5],[5]),([6],[6]),([7],[7]),([4,8],[4,8]),([9],[9]),([0,10],[0,10]),([11,11,0,1,2,3,4,5,6,7,8,9,10,11],[0,11])])
def impl_cubicsOf.B7:List Nat:=[0,0,2,6,14,0,32,96,224,510,1022,2047,4095]
theorem impl_cubicsOf.tab7:rtab .any (opsOf Try.f29 7)=impl_cubicsOf.T7:=by kernel_rfl
theorem impl_cubicsOf.bits7:waitsOk impl_cubicsOf.T7.2 impl_cubicsOf.B7=true:=by kernel_rfl
set_option maxHeartbeats 8000000 in
set_option maxRecDepth 100000 in
theorem impl_cubicsOf.calls (k:Nat) (A0:Option Addr) (c0:Nat) (l0:List (S26)) (r1:List (S54)) (r2:Bool) (w:World) (hr0:Kd.C k26 w A0 l0.length l0) (hc0:l0.length≤c0) (h:impl_cubicsOf.f k l0=some (r1,r2)):
  Calls Try.prog 29 #[.slice A0 l0.length c0] w fun e w'=>∃v0_:Value,e=.returned (.tuple #[v0_,.bool r2])∧Kd.R k54 54 w' w.heap.size (fun _=>True) v0_ r1∧Below w.heap.size w w':=by
 have hu26:=Try.underlying26;have hu54:=Try.underlying54;have HR0:=qAm hr0;have HC0:=qAm hc0;clear hr0 hc0;have HB:=qAm (Below.refl w.heap.size w);have H:(impl_cubicsOf.l0 k (([]:List (S54))) l0 (l0.length:Int) 0)=some (r1,r2):=h;clear h;obtain⟨y361,hy361⟩:∃y_:List (S54),y_=(([]:List (S54))):=⟨_,rfl⟩
 replace H:(impl_cubicsOf.l0 k y361 l0 (l0.length:Int) 0)=some (r1,r2):=by first|(rw [hy361];with_reducible exact H)|(have H2_:=(Option.bind_some _ _).symm.trans H;rw [hy361];with_reducible exact H2_)|(have H2_:=(Option.bind_some _ _).symm.trans H;with_reducible exact H2_)|with_reducible exact H|(rw [hy361];exact H)|exact H
 have Ny361:=qAm hy361;clear hy361;have H':=qAm H;clear H;go_enter Try.func29,Try.ntmps29;go_wp2_with (first|((with_reducible refine gate_dst (N:=7) rfl ?_);refine Kd.R_lit k54 _ 54 ?hg (N:=7) ?hd (xs:=([]:List (S54))) (inner:=[]) (ok:=fun _=>True) (okp:=fun _=>True) ?hr ?hp (fun _ hk=>hk) trivial (Below.refl _ _) (Nat.le_refl _) (by simp) ?_;(case hd=>rfl);(case hg=>rfl);(case hr=>first|(go_simp;done)|(go_simp;rfl));(case hp=>exact(Reps.none _ _));intro v362 w2 ho3 hb hg_ hnew_;clear hg_ hnew_;(first|rw [← Ny361.1] at ho3|(simp only [Int.reduceToNat] at ho3;rw [← Ny361.1] at ho3));have n0_:=qAm (Kd.R_lower ho3 (below_size qB111));have n1_:=qAm (below_step qB111 hb);clear HB;have HO363:=n0_;have HB:=n1_;clear n0_ n1_;clear hb ho3));try simp only [Act.put,qSa,qSc,qSb]
 go_loopg [4,10] k (fun kq v4 v10 w'=>∃(x4_1:List (S54)) (x10_1:Int),v10=.int .i64 x10_1∧Aside0 (impl_cubicsOf.l0 kq x4_1 l0 (l0.length:Int) x10_1=some (r1,r2))∧Aside0 (kq≤k)∧Aside0 (Kd.R k54 54 w' w.heap.size (fun _=>True) v4 x4_1)∧Aside0 (Below w.heap.size w w'))
 case atStart=>exact⟨(y361),(0),qB216,H',⟨Nat.le_refl _⟩,⟨by (with_reducible repeat(first|apply Kd.R_alloc|apply Kd.R_drewN|apply Kd.R_drew));exact HO363.1⟩,⟨by repeat(first|(with_reducible first|exact HB.1|apply below_alloc|apply pw_below_drewN|apply below_drew1)|exact HB.1)⟩⟩
 case round=>
  clear H';try clear c2
  try clear p2
  obtain⟨x4_1,x10_1,rfl,HA,HK1,HO_4,HB⟩:=hrel;cases gk with
  |zero=>exact absurd HA.1 (by simp [impl_cubicsOf.l0])
  |succ k1=>
   have H:=HA.1;clear HA;simp only [impl_cubicsOf.l0] at H
   by_cases c4:x10_1<(l0.length:Int)
   ·rw [if_pos c4] at H;have c4b0:decide (x10_1<(l0.length:Int))=true:=decide_eq_true c4;clear c4
    by_cases c5:0≤x10_1
    ·rw [if_pos c5] at H;have c5b0:decide (0≤x10_1)=true:=decide_eq_true c5;clear c5
     by_cases c6:x10_1<(l0.length:Int)
     ·rw [if_pos c6] at H;have c6b0:decide (x10_1<(l0.length:Int))=true:=decide_eq_true c6;clear c6;replace H:=qOb H;obtain⟨t366,A70,H⟩:=H;replace H:(if t366=true then (if 0<(((rd_T26 l0 x10_1).f1).length:Int) then (if 1<(((rd_T26 l0 x10_1).f1).length:Int) then (if x4_1.length<8796093022208 then (impl_cubicsOf.l0 k1 (x4_1 ++ [(⟨rd ((rd_T26 l0 x10_1).f1) 0,rd ((rd_T26 l0 x10_1).f1) 1⟩:S54)]) l0 (l0.length:Int) (wrap64 (x10_1+1))) else (none)) else (none)) else (none)) else (some (([]:List (S54)),false)))=some (r1,r2):=H;have A7:=qAm A70;clear A70
      by_cases c8:t366=true
      ·subst c8;have H1:(if 0<(((rd_T26 l0 x10_1).f1).length:Int) then (if 1<(((rd_T26 l0 x10_1).f1).length:Int) then (if x4_1.length<8796093022208 then (impl_cubicsOf.l0 k1 (x4_1 ++ [(⟨rd ((rd_T26 l0 x10_1).f1) 0,rd ((rd_T26 l0 x10_1).f1) 1⟩:S54)]) l0 (l0.length:Int) (wrap64 (x10_1+1))) else (none)) else (none)) else (none))=some (r1,r2):=by rw [if_pos rfl] at H;exact H
       clear H;have H:=H1;clear H1
       by_cases c9:0<(((rd_T26 l0 x10_1).f1).length:Int)
       ·rw [if_pos c9] at H;have c9b0:decide (0<(((rd_T26 l0 x10_1).f1).length:Int))=true:=decide_eq_true c9;have c9b1:decide (0<((rd_T26 l0 x10_1).f1).length)=true:=decide_eq_true (by omega);clear c9
        by_cases c10:1<(((rd_T26 l0 x10_1).f1).length:Int)
        ·rw [if_pos c10] at H;have c10b0:decide (1<(((rd_T26 l0 x10_1).f1).length:Int))=true:=decide_eq_true c10;have c10b1:decide (1<((rd_T26 l0 x10_1).f1).length)=true:=decide_eq_true (by omega);clear c10
         by_cases c11:x4_1.length<8796093022208
         ·rw [if_pos c11] at H;have LMc11:=qAm c11;clear c11;obtain⟨y369,hy369⟩:∃y_:List (S54),y_=(x4_1 ++ [(⟨rd ((rd_T26 l0 x10_1).f1) 0,rd ((rd_T26 l0 x10_1).f1) 1⟩:S54)]):=⟨_,rfl⟩
          replace H:(impl_cubicsOf.l0 k1 y369 l0 (l0.length:Int) (wrap64 (x10_1+1)))=some (r1,r2):=by first|(rw [hy369];with_reducible exact H)|(have H2_:=(Option.bind_some _ _).symm.trans H;rw [hy369];with_reducible exact H2_)|(have H2_:=(Option.bind_some _ _).symm.trans H;with_reducible exact H2_)|with_reducible exact H|(rw [hy369];exact H)|exact H
          have Ny369:=qAm hy369;clear hy369;have H':=qAm H;clear H;have p364:0≤(x10_1:Int):=of_decide_eq_true qB215;have q364:x10_1<(l0.length:Int):=of_decide_eq_true qB215;obtain⟨ad364,A364_1,c364_1,e364,hx364_0,hx364_1,hl364_1,hi364_1⟩:=at_T26 HR0.1 x10_1 p364 q364;cases e364
          replace hx364_0:=(HB.1.cell (World.block_lt_of_cell? w _ hx364_0)).trans hx364_0;replace hx364_1:=(HB.1.cell (World.block_lt_of_cell? w _ hx364_1)).trans hx364_1;have HR364_1:=qAm hi364_1;have HC364_1:=qAm hl364_1;clear hi364_1 hl364_1;replace p364:=eq_true p364;replace q364:=eq_true q364;try go_wp2_with (first|((with_reducible refine gate_dst (N:=6) rfl ?_);refine box_event qL (N:=6) qL (cs:=#[.int .i64 0,.slice none 0 0]) (t:=26) qR ?_;intro gb365 hg w12 hbox hb;have n0_:=qAm (Kd.R_below qB208 hb);have n1_:=qAm (below_step qB111 hb);have n2_:=qAm (hbox);have n3_:=qAm ((by rw [hg];exact(below_size qB111):w.heap.size≤gb365));have n4_:=qAm ((by rw [hg];exact(below_size qB111):w.heap.size≤gb365));clear HO_4;clear HB;have HO_4:=n0_;have HB:=n1_;have BK365:=n2_;have GW365:=n3_;have GE365:=n4_;clear n0_ n1_ n2_ n3_ n4_;clear hb hbox hg;have hcz13_0:w12.cell? ⟨gb365,0,none⟩=some (.int .i64 0):=(blk_cell BK365.1 0).trans rfl;have hcz13_1:w12.cell? ⟨gb365,1,none⟩=some (.slice none 0 0):=(blk_cell BK365.1 1).trans rfl;have hfz13_0:=blk_frozen BK365.1 0;have hfz13_1:=blk_frozen BK365.1 1)|((with_reducible refine gate_callee (f:=55) rfl ?_);refine goesL_ (some 15) rfl rfl Try.func55 (by kernel_rfl) rfl #[.agg #[.int .i64 ((rd_T26 l0 x10_1).f0),.slice A364_1 ((rd_T26 l0 x10_1).f1).length c364_1]] rfl qB108 ?_;(with_reducible refine(impl_IsCubicNumber.calls k1 ((rd_T26 l0 x10_1).f0) _ _ ((rd_T26 l0 x10_1).f1) true _ ?side1 ?side2 A7.1).mono ?_);(case side1=>exact Kd.C_below HR364_1.1 qB96);(case side2=>exact HC364_1.1);rintro e w14 ⟨rfl,hb⟩;refine⟨_,rfl,?_⟩;have n0_:=qAm (Kd.R_below qB25 hb);have n1_:=qAm (blk_below (g:=gb365) (o:=.cells #[.int .i64 ((rd_T26 l0 x10_1).f0),.slice A364_1 ((rd_T26 l0 x10_1).f1).length c364_1] 26 (0,0)) qB23 hb);have n2_:=qAm (below_step qB96 hb);clear HO_4;clear BK365;clear HB;have HO_4:=n0_;have BK365:=n1_;have HB:=n2_;clear n0_ n1_ n2_;(try clear hb);(try clear hb2);(try clear hk);(try clear hi)))
          have n0_:=qAm (Kd.R_drew HO_4.1);have n1_:=qAm (blk_drew BK365.1);have n2_:=qAm (below_drew1 HB.1);clear HO_4 BK365 HB;have HO_4:=n0_;have BK365:=n1_;have HB:=n2_;clear n0_ n1_ n2_;have p367:0≤(0:Int):=(by omega)
          have q367:0<(((rd_T26 l0 x10_1).f1).length:Int):=of_decide_eq_true qB215;obtain⟨ad367,e367,hx367_0⟩:=Kd.at_int HR364_1.1 0 p367 q367;have hw367_0:=hx367_0
          (try rw [show((0:Int)).toNat=0 from rfl] at hw367_0)
          (try rw [show 0*1=0 from rfl] at hw367_0)
          (try rw [Addr.add_zero'] at hw367_0)
          cases e367
          have qi367:(0<((rd_T26 l0 x10_1).f1).length)=True:=eq_true (by omega)
          (try rw [show((0:Int)).toNat=0 from rfl] at hx367_0)
          (try rw [Addr.add_zero'] at hx367_0)
          replace hx367_0:=(HB.1.cell (World.block_lt_of_cell? w _ hx367_0)).trans hx367_0;replace p367:=eq_true p367;replace q367:=eq_true q367;have p368:0≤(1:Int):=(by omega)
          have q368:1<(((rd_T26 l0 x10_1).f1).length:Int):=of_decide_eq_true qB215;obtain⟨ad368,e368,hx368_0⟩:=Kd.at_int HR364_1.1 1 p368 q368;have hw368_0:=hx368_0
          (try rw [show((1:Int)).toNat=1 from rfl] at hw368_0)
          (try rw [show 1*1=1 from rfl] at hw368_0)
          (try simp only [Nat.reduceMul,Nat.reduceEqDiff,Go.Addr.add,↓reduceIte] at hw368_0)
          obtain rfl:ad367=ad368:=(by injection e368)
          (try simp only [show(1:Int).toNat=1 from rfl,Nat.reduceMul,Nat.reduceEqDiff,Go.Addr.add,↓reduceIte] at hx368_0)
          have qi368:(1<((rd_T26 l0 x10_1).f1).length)=True:=eq_true (by omega)
          (try rw [show((1:Int)).toNat=1 from rfl] at hx368_0)
          replace hx368_0:=(HB.1.cell (World.block_lt_of_cell? w _ hx368_0)).trans hx368_0;replace p368:=eq_true p368;replace q368:=eq_true q368;refine start_ (n:=13) (S:=fun w'=>w'.cell? ⟨gb365,0,none⟩=some (.int .i64 ((rd_T26 l0 x10_1).f0))∧w'.cell? ⟨gb365,1,none⟩=some (.slice (some ad367) ((rd_T26 l0 x10_1).f1).length c364_1)∧w'.cell? ad367=some (.int .i64 (rd ((rd_T26 l0 x10_1).f1) 0))∧w'.cell? ⟨ad367.block,ad367.off+1,none⟩=some (.int .i64 (rd ((rd_T26 l0 x10_1).f1) 1))) (ds:=[]) #[false,false,false,false,false,false,false,false,false,false,false,false,false] (by kernel_rfl) rfl rfl ⟨(blk_cell BK365.1 0).trans rfl,(blk_cell BK365.1 1).trans rfl,((HB.1.cell (World.block_lt_of_cell? w _ hw367_0)).trans hw367_0),((HB.1.cell (World.block_lt_of_cell? w _ hw368_0)).trans hw368_0)⟩ (fun hHeld=>?_);refine with_tabW impl_cubicsOf.tab7 impl_cubicsOf.bits7 (fun HT_ HW_=>?_);generalize w14.drew=w15 at HO_4 BK365 HB hx367_0 hx368_0 hHeld ⊢;refine pure_ (i:=0) (N:=some 17) (v:=?_) (a':=?_) #[true,false,false,false,false,false,false,false,false,false,false,false,false] rfl rfl (any_of HT_.1 (by kernel_rfl)) (fun _ _ _ h=>h) (Or.inl ⟨by rfl,?_⟩) ?_ ?_;rotate_left
          ·intro w';go_simp;with_reducible rfl
          rotate_left
          ·exact qU
          refine pure_ (i:=1) (N:=some 18) (v:=?_) (a':=?_) #[true,true,false,false,false,false,false,false,false,false,false,false,false] rfl rfl (any_of HT_.1 (by kernel_rfl)) (fun _ _ _ h=>h) (Or.inl ⟨by rfl,?_⟩) ?_ ?_;rotate_left
          ·intro w';go_simp;with_reducible rfl
          rotate_left
          ·exact qU
          refine pure_ (i:=5) (N:=some 22) (v:=?_) (a':=?_) #[true,true,false,false,false,true,false,false,false,false,false,false,false] rfl rfl (any_of HT_.1 (by kernel_rfl)) (fun _ _ _ h=>h) (Or.inl ⟨by rfl,?_⟩) ?_ ?_;rotate_left
          ·intro w';go_simp;with_reducible rfl
          rotate_left
          ·exact qU
          refine take_ (i:=2) (N:=some 19) (v:=?_) (a':=?_) #[true,true,true,false,false,true,false,false,false,false,false,false,false] rfl rfl (take_ofW HT_.1 HW_.1 (by kernel_rfl)) (fun _ _ _ h=>h) (Or.inl ⟨by rfl,?_⟩) hHeld ?_ ?_;rotate_left
          ·rintro w' ⟨s0,s1,s2,s3⟩;go_simp;with_reducible rfl
          rotate_left
          ·exact qU
          refine pure_ (i:=3) (N:=some 20) (v:=?_) (a':=?_) #[true,true,true,true,false,true,false,false,false,false,false,false,false] rfl rfl (any_of HT_.1 (by kernel_rfl)) (fun _ _ _ h=>h) (Or.inl ⟨by rfl,?_⟩) ?_ ?_;rotate_left
          ·intro w';go_simp;with_reducible rfl
          rotate_left
          ·exact qU
          refine take_ (i:=4) (N:=some 21) (v:=?_) (a':=?_) #[true,true,true,true,true,true,false,false,false,false,false,false,false] rfl rfl (take_ofW HT_.1 HW_.1 (by kernel_rfl)) (fun _ _ _ h=>h) (Or.inl ⟨by rfl,?_⟩) hHeld ?_ ?_;rotate_left
          ·rintro w' ⟨s0,s1,s2,s3⟩;go_simp;with_reducible rfl
          rotate_left
          ·exact qU
          refine take_ (i:=6) (N:=some 23) (v:=?_) (a':=?_) #[true,true,true,true,true,true,true,false,false,false,false,false,false] rfl rfl (take_ofW HT_.1 HW_.1 (by kernel_rfl)) (fun _ _ _ h=>h) (Or.inl ⟨by rfl,?_⟩) hHeld ?_ ?_;rotate_left
          ·rintro w' ⟨s0,s1,s2,s3⟩;go_simp;with_reducible rfl
          rotate_left
          ·exact qU
          refine pure_ (i:=7) (N:=some 24) (v:=?_) (a':=?_) #[true,true,true,true,true,true,true,true,false,false,false,false,false] rfl rfl (any_of HT_.1 (by kernel_rfl)) (fun _ _ _ h=>h) (Or.inl ⟨by rfl,?_⟩) ?_ ?_;rotate_left
          ·intro w';go_simp;with_reducible rfl
          rotate_left
          ·exact qU
          refine take_ (i:=8) (N:=some 25) (v:=?_) (a':=?_) #[true,true,true,true,true,true,true,true,true,false,false,false,false] rfl rfl (take_ofW HT_.1 HW_.1 (by kernel_rfl)) (fun _ _ _ h=>h) (Or.inl ⟨by rfl,?_⟩) hHeld ?_ ?_;rotate_left
          ·rintro w' ⟨s0,s1,s2,s3⟩;go_simp;with_reducible rfl
          rotate_left
          ·exact qU
          refine pure_ (i:=9) (N:=some 26) (v:=?_) (a':=?_) #[true,true,true,true,true,true,true,true,true,true,false,false,false] rfl rfl (any_of HT_.1 (by kernel_rfl)) (fun _ _ _ h=>h) (Or.inl ⟨by rfl,?_⟩) ?_ ?_;rotate_left
          ·intro w';go_simp;with_reducible rfl
          rotate_left
          ·exact qU
          refine one_ (i:=10) (N:=some 27) #[true,true,true,true,true,true,true,true,true,true,true,false,false] rfl rfl (one_of HT_.1 (by kernel_rfl)) (by decide) (fun K hK=>?_);refine value_ (w1:=?_) (v:=?_) (by rfl) rfl ?_ ?_;rotate_left 2
          ·go_simp
           constructor
           ·rfl
           ·rfl
          refine hK.out _ _ ⟨(blk_cell (blk_alloc BK365.1 _) 0).trans rfl,(blk_cell (blk_alloc BK365.1 _) 1).trans rfl,(World.cell?_alloc_lt _ _ _ (World.block_lt_of_cell? _ _ (((HB.1.cell (World.block_lt_of_cell? w _ hw367_0)).trans hw367_0)))).trans (((HB.1.cell (World.block_lt_of_cell? w _ hw367_0)).trans hw367_0)),(World.cell?_alloc_lt _ _ _ (World.block_lt_of_cell? _ _ (((HB.1.cell (World.block_lt_of_cell? w _ hw368_0)).trans hw368_0)))).trans (((HB.1.cell (World.block_lt_of_cell? w _ hw368_0)).trans hw368_0))⟩ (fun hHeld=>?_);clear hK K;refine norm_ (a':=?_) ?_ ?_;rotate_left
          ·show Act.put _ (some 27) _=_
           exact qU
          refine one_ (i:=11) (N:=some 28) #[true,true,true,true,true,true,true,true,true,true,true,true,false] rfl rfl (one_of HT_.1 (by kernel_rfl)) (by decide) (fun K hK=>?_);refine Kd.R_append_step k54 (w0:=w) w.heap.size (by rfl) (.tmp 17) (.tmp 27) 50 54 (.agg #[(.int .i64 0),(.int .i64 0)]) 16 rfl Try.underlying50 info54 rfl (by decide) (by omega) u4 x4_1 (⟨rd ((rd_T26 l0 x10_1).f1) 0,rd ((rd_T26 l0 x10_1).f1) 1⟩:S54) [.int .i64 (rd ((rd_T26 l0 x10_1).f1) 0),.int .i64 (rd ((rd_T26 l0 x10_1).f1) 1)] (fun _=>True) (fun _=>False) rfl rfl ?aP (fun _ hk=>hk.elim) ?aF ?aO ?aB ?aS ?aL ?_
          (case aP=>exact k54_mkM _ _ _ (⟨rd ((rd_T26 l0 x10_1).f1) 0,rd ((rd_T26 l0 x10_1).f1) 1⟩:S54))
          (case aB=>exact qB96)
          (case aF=>exact(fun _ _=>trivial))
          (case aO=>exact qB208)
          (case aS=>exact(below_size qB96))
          (case aL=>have:=LMc11.1;omega)
          intro v370 w16 ho hb hg hat;rw [← Ny369.1] at ho;have n0_:=qAm (blk_grown (g:=gb365) (o:=.cells #[.int .i64 ((rd_T26 l0 x10_1).f0),.slice (some ad367) ((rd_T26 l0 x10_1).f1).length c364_1] 26 (0,0)) (by (with_reducible repeat(first|refine blk_drewN ?_ _|refine blk_drew ?_|refine blk_alloc ?_ _));exact BK365.1) hg (Kd.R_ne HO_4.1 BK365.1 (by decide)));have n1_:=qAm (hb);have n2_:=qAm (ho);clear BK365 HB HO_4;have BK365:=n0_;have HB:=n1_;have HO371:=n2_;clear n0_ n1_ n2_ ho hb hg hat;refine hK.out _ _ ⟨(blk_cell BK365.1 0).trans rfl,(blk_cell BK365.1 1).trans rfl,((HB.1.cell (World.block_lt_of_cell? w _ hw367_0)).trans hw367_0),((HB.1.cell (World.block_lt_of_cell? w _ hw368_0)).trans hw368_0)⟩ (fun hHeld=>?_);clear hK K;refine norm_ (a':=?_) ?_ ?_;rotate_left
          ·show Act.put _ (some 28) _=_
           exact qU
          refine pure_ (i:=12) (N:=some 4) (v:=?_) (a':=?_) #[true,true,true,true,true,true,true,true,true,true,true,true,true] rfl rfl (any_of HT_.1 (by kernel_rfl)) (fun _ _ _ h=>h) (Or.inl ⟨by rfl,?_⟩) ?_ ?_;rotate_left
          ·intro w';go_simp;with_reducible rfl
          rotate_left
          ·exact qU
          refine done_ (done_of HT_.1 (by kernel_rfl)) ?_;try go_wp2
          (first|go_roundg k1|((try simp only [add_plain] at *);go_roundg k1))
          case measure=>have:=HK1.1;omega
          case rel=>exact⟨(y369),(wrap64 (x10_1+1)),qB216,H',⟨by have:=HK1.1;omega⟩,⟨by (with_reducible repeat(first|apply Kd.R_alloc|apply Kd.R_drewN|apply Kd.R_drew));exact HO371.1⟩,⟨by repeat(first|(with_reducible first|exact HB.1|apply below_alloc|apply pw_below_drewN|apply below_drew1|refine below_set ?_ GE365.1)|exact HB.1)⟩⟩
         ·rw [if_neg c11] at H;exact absurd H (by simp)
        ·rw [if_neg c10] at H;exact absurd H (by simp)
       ·rw [if_neg c9] at H;exact absurd H (by simp)
      ·replace c8:=Bool.eq_false_iff.mpr c8;subst c8;have H1:(some (([]:List (S54)),false))=some (r1,r2):=by rw [if_neg (show ¬(false=true) by decide)] at H;exact H
       clear H;have H:=H1;clear H1;simp only [Option.some.injEq,Prod.mk.injEq] at H;obtain⟨rfl,rfl⟩:=H;have p364:0≤(x10_1:Int):=of_decide_eq_true qB215;have q364:x10_1<(l0.length:Int):=of_decide_eq_true qB215;obtain⟨ad364,A364_1,c364_1,e364,hx364_0,hx364_1,hl364_1,hi364_1⟩:=at_T26 HR0.1 x10_1 p364 q364;cases e364
       replace hx364_0:=(HB.1.cell (World.block_lt_of_cell? w _ hx364_0)).trans hx364_0;replace hx364_1:=(HB.1.cell (World.block_lt_of_cell? w _ hx364_1)).trans hx364_1;have HR364_1:=qAm hi364_1;have HC364_1:=qAm hl364_1;clear hi364_1 hl364_1;replace p364:=eq_true p364;replace q364:=eq_true q364;go_wp2_with (first|((with_reducible refine gate_dst (N:=6) rfl ?_);refine box_event qL (N:=6) qL (cs:=#[.int .i64 0,.slice none 0 0]) (t:=26) qR ?_;intro gb365 hg w17 hbox hb;have n0_:=qAm (Kd.R_below qB208 hb);have n1_:=qAm (below_step qB111 hb);have n2_:=qAm (hbox);have n3_:=qAm ((by rw [hg];exact(below_size qB111):w.heap.size≤gb365));have n4_:=qAm ((by rw [hg];exact(below_size qB111):w.heap.size≤gb365));clear HO_4;clear HB;have HO_4:=n0_;have HB:=n1_;have BK365:=n2_;have GW365:=n3_;have GE365:=n4_;clear n0_ n1_ n2_ n3_ n4_;clear hb hbox hg;have hcz18_0:w17.cell? ⟨gb365,0,none⟩=some (.int .i64 0):=(blk_cell BK365.1 0).trans rfl;have hcz18_1:w17.cell? ⟨gb365,1,none⟩=some (.slice none 0 0):=(blk_cell BK365.1 1).trans rfl;have hfz18_0:=blk_frozen BK365.1 0;have hfz18_1:=blk_frozen BK365.1 1)|((with_reducible refine gate_callee (f:=55) rfl ?_);refine goesL_ (some 15) rfl rfl Try.func55 (by kernel_rfl) rfl #[.agg #[.int .i64 ((rd_T26 l0 x10_1).f0),.slice A364_1 ((rd_T26 l0 x10_1).f1).length c364_1]] rfl qB108 ?_;(with_reducible refine(impl_IsCubicNumber.calls k1 ((rd_T26 l0 x10_1).f0) _ _ ((rd_T26 l0 x10_1).f1) false _ ?side1 ?side2 A7.1).mono ?_);(case side1=>exact Kd.C_below HR364_1.1 qB96);(case side2=>exact HC364_1.1);rintro e w19 ⟨rfl,hb⟩;refine⟨_,rfl,?_⟩;have n0_:=qAm (Kd.R_below qB25 hb);have n1_:=qAm (blk_below (g:=gb365) (o:=.cells #[.int .i64 ((rd_T26 l0 x10_1).f0),.slice A364_1 ((rd_T26 l0 x10_1).f1).length c364_1] 26 (0,0)) qB23 hb);have n2_:=qAm (below_step qB96 hb);clear HO_4;clear BK365;clear HB;have HO_4:=n0_;have BK365:=n1_;have HB:=n2_;clear n0_ n1_ n2_;(try clear hb);(try clear hb2);(try clear hk);(try clear hi)));go_ret2;exact⟨_,by first|rfl|(simp [errW_none,errW_some] <;> rfl)|(simp [*,errW_none,errW_some] <;> rfl),by first|exact Kd.R_nil _ _ _ _ _|exact Kd.N_nil _ _ _ _ _|exact Kd.V_nil _ _ _ _ _|exact Kd.Q_nil _ _ _ _ _|exact Kd.S_nil _ _ _ _ _,by repeat(first|(with_reducible first|exact HB.1|apply below_alloc|apply pw_below_drewN|apply below_drew1|refine below_set ?_ GE365.1)|exact HB.1)⟩
     ·rw [if_neg c6] at H;exact absurd H (by simp)
    ·rw [if_neg c5] at H;exact absurd H (by simp)
   ·rw [if_neg c4] at H;have c4b0:decide (x10_1<(l0.length:Int))=false:=decide_eq_false c4;clear c4;simp only [Option.some.injEq,Prod.mk.injEq] at H;obtain⟨rfl,rfl⟩:=H;go_wp2;go_ret2;exact⟨_,by first|rfl|(simp [errW_none,errW_some] <;> rfl)|(simp [*,errW_none,errW_some] <;> rfl),by (with_reducible repeat(first|apply Kd.R_alloc|apply Kd.R_drewN|apply Kd.R_drew));exact HO_4.1,by repeat(first|(with_reducible first|exact HB.1|apply below_alloc|apply pw_below_drewN|apply below_drew1)|exact HB.1)⟩

/-! ### impl_cubic_norm: function 42 -/
def impl_cubic_norm.f (a0_0:Int) (a0_1:Int):Option (Int):=some (wrap64 ((wrap64 ((wrap64 (a0_0*a0_0)) - (wrap64 (a0_0*a0_1))))+(wrap64 (a0_1*a0_1))))
set_option maxHeartbeats 8000000 in
set_option maxRecDepth 100000 in
theorem impl_cubic_norm.calls (a0_0:Int) (a0_1:Int) (r:Int) (w:World) (h:impl_cubic_norm.f a0_0 a0_1=some r):
  Calls Try.prog 42 #[.agg #[.int .i64 a0_0,.int .i64 a0_1]] w fun e w'=>e=.returned (.int .i64 r)∧Below w.heap.size w w':=by
 have hu54:=Try.underlying54;have HB:=qAm (Below.refl w.heap.size w);have H:(some (wrap64 ((wrap64 ((wrap64 (a0_0*a0_0)) - (wrap64 (a0_0*a0_1))))+(wrap64 (a0_1*a0_1)))))=some r:=h;clear h;obtain rfl:=Option.some.inj H;go_enter Try.func42,Try.ntmps42;go_wp2_with (first|((with_reducible refine gate_dst (N:=1) rfl ?_);refine box_event qL (N:=1) qL (cs:=#[.int .i64 a0_0,.int .i64 a0_1]) (t:=54) qR ?_;intro gb372 hg w2 hbox hb;have n0_:=qAm (below_step qB111 hb);have n1_:=qAm (hbox);have n2_:=qAm ((by rw [hg];exact(below_size qB111):w.heap.size≤gb372));have n3_:=qAm ((by rw [hg];exact(below_size qB111):w.heap.size≤gb372));clear HB;have HB:=n0_;have BK372:=n1_;have GW372:=n2_;have GE372:=n3_;clear n0_ n1_ n2_ n3_;clear hb hbox hg;have hcz3_0:w2.cell? ⟨gb372,0,none⟩=some (.int .i64 a0_0):=(blk_cell BK372.1 0).trans rfl;have hcz3_1:w2.cell? ⟨gb372,1,none⟩=some (.int .i64 a0_1):=(blk_cell BK372.1 1).trans rfl;have hfz3_0:=blk_frozen BK372.1 0;have hfz3_1:=blk_frozen BK372.1 1));go_ret;exact⟨by first|rfl|(simp [errW_none,errW_some] <;> rfl)|(simp [*,errW_none,errW_some] <;> rfl),by repeat(first|(with_reducible first|exact HB.1|apply below_alloc|apply pw_below_drewN|apply below_drew1|refine below_set ?_ GE372.1)|exact HB.1)⟩

/-! ### impl_cubic_times: function 44 -/
def impl_cubic_times.f (a0_0:Int) (a0_1:Int) (a1_0:Int) (a1_1:Int):Option (Int×Int):=some (wrap64 ((wrap64 (a0_0*a1_0)) - (wrap64 (a0_1*a1_1))),wrap64 ((wrap64 ((wrap64 (a0_0*a1_1))+(wrap64 (a0_1*a1_0)))) - (wrap64 (a0_1*a1_1))))
set_option maxHeartbeats 8000000 in
set_option maxRecDepth 100000 in
theorem impl_cubic_times.calls (a0_0:Int) (a0_1:Int) (a1_0:Int) (a1_1:Int) (r1:Int) (r2:Int) (w:World) (h:impl_cubic_times.f a0_0 a0_1 a1_0 a1_1=some (r1,r2)):
  Calls Try.prog 44 #[.agg #[.int .i64 a0_0,.int .i64 a0_1],.agg #[.int .i64 a1_0,.int .i64 a1_1]] w fun e w'=>e=.returned (.agg #[.int .i64 r1,.int .i64 r2])∧Below w.heap.size w w':=by
 have hu54:=Try.underlying54;have HB:=qAm (Below.refl w.heap.size w);have H:(some (wrap64 ((wrap64 (a0_0*a1_0)) - (wrap64 (a0_1*a1_1))),wrap64 ((wrap64 ((wrap64 (a0_0*a1_1))+(wrap64 (a0_1*a1_0)))) - (wrap64 (a0_1*a1_1)))))=some (r1,r2):=h;clear h;simp only [Option.some.injEq,Prod.mk.injEq] at H;obtain⟨rfl,rfl⟩:=H;go_enter Try.func44,Try.ntmps44;go_wp2_with (first|((with_reducible refine gate_dst (N:=2) rfl ?_);refine box_event qL (N:=2) qL (cs:=#[.int .i64 a0_0,.int .i64 a0_1]) (t:=54) qR ?_;intro gb373 hg w3 hbox hb;have n0_:=qAm (below_step qB111 hb);have n1_:=qAm (hbox);have n2_:=qAm ((by rw [hg];exact(below_size qB111):w.heap.size≤gb373));have n3_:=qAm ((by rw [hg];exact(below_size qB111):w.heap.size≤gb373));clear HB;have HB:=n0_;have BK373:=n1_;have GW373:=n2_;have GE373:=n3_;clear n0_ n1_ n2_ n3_;clear hb hbox hg)|((with_reducible refine gate_dst (N:=3) rfl ?_);refine box_event qL (N:=3) qL (cs:=#[.int .i64 a1_0,.int .i64 a1_1]) (t:=54) qR ?_;intro gb374 hg w4 hbox hb;have n0_:=qAm (blk_below (g:=gb373) (o:=.cells #[.int .i64 a0_0,.int .i64 a0_1] 54 (0,0)) qB143 hb);have n1_:=qAm (below_step qB97 hb);have n2_:=qAm (hbox);have n3_:=qAm ((by rw [hg];exact(below_size qB97):w.heap.size≤gb374));have n4_:=qAm ((by rw [hg];exact(below_size qB97):w.heap.size≤gb374));have n5_:=qAm ((by rw [hg];exact Nat.ne_of_lt (blk_lt (g:=gb373) (o:=.cells #[.int .i64 a0_0,.int .i64 a0_1] 54 (0,0)) qB143):gb373≠gb374));have n6_:=qAm ((by rw [hg];exact Nat.ne_of_gt (blk_lt (g:=gb373) (o:=.cells #[.int .i64 a0_0,.int .i64 a0_1] 54 (0,0)) qB143):gb374≠gb373));clear BK373;clear HB;have BK373:=n0_;have HB:=n1_;have BK374:=n2_;have GW374:=n3_;have GE374:=n4_;have NB373_374:=n5_;have NB374_373:=n6_;clear n0_ n1_ n2_ n3_ n4_ n5_ n6_;clear hb hbox hg)|((with_reducible refine gate_dst (N:=4) rfl ?_);refine box_event qL (N:=4) qL (cs:=#[.int .i64 0,.int .i64 0]) (t:=54) qR ?_;intro gb375 hg w5 hbox hb;have n0_:=qAm (blk_below (g:=gb373) (o:=.cells #[.int .i64 a0_0,.int .i64 a0_1] 54 (0,0)) qB143 hb);have n1_:=qAm (blk_below (g:=gb374) (o:=.cells #[.int .i64 a1_0,.int .i64 a1_1] 54 (0,0)) qB144 hb);have n2_:=qAm (below_step qB74 hb);have n3_:=qAm (hbox);have n4_:=qAm ((by rw [hg];exact(below_size qB74):w.heap.size≤gb375));have n5_:=qAm ((by rw [hg];exact(below_size qB74):w.heap.size≤gb375));have n6_:=qAm ((by rw [hg];exact Nat.ne_of_lt (blk_lt (g:=gb373) (o:=.cells #[.int .i64 a0_0,.int .i64 a0_1] 54 (0,0)) qB143):gb373≠gb375));have n7_:=qAm ((by rw [hg];exact Nat.ne_of_gt (blk_lt (g:=gb373) (o:=.cells #[.int .i64 a0_0,.int .i64 a0_1] 54 (0,0)) qB143):gb375≠gb373));have n8_:=qAm ((by rw [hg];exact Nat.ne_of_lt (blk_lt (g:=gb374) (o:=.cells #[.int .i64 a1_0,.int .i64 a1_1] 54 (0,0)) qB144):gb374≠gb375));have n9_:=qAm ((by rw [hg];exact Nat.ne_of_gt (blk_lt (g:=gb374) (o:=.cells #[.int .i64 a1_0,.int .i64 a1_1] 54 (0,0)) qB144):gb375≠gb374));clear BK373;clear BK374;clear HB;have BK373:=n0_;have BK374:=n1_;have HB:=n2_;have BK375:=n3_;have GW375:=n4_;have GE375:=n5_;have NB373_375:=n6_;have NB375_373:=n7_;have NB374_375:=n8_;have NB375_374:=n9_;clear n0_ n1_ n2_ n3_ n4_ n5_ n6_ n7_ n8_ n9_;clear hb hbox hg;have hnb6:=NB373_374.1;have hnc6:=NB374_373.1;have hnb7:=NB373_375.1;have hnc7:=NB375_373.1;have hcz8_0:w5.cell? ⟨gb373,0,none⟩=some (.int .i64 a0_0):=(blk_cell BK373.1 0).trans rfl;have hcz8_1:w5.cell? ⟨gb373,1,none⟩=some (.int .i64 a0_1):=(blk_cell BK373.1 1).trans rfl;have hfz8_0:=blk_frozen BK373.1 0;have hfz8_1:=blk_frozen BK373.1 1;have hnb9:=NB374_375.1;have hnc9:=NB375_374.1;have hcz10_0:w5.cell? ⟨gb374,0,none⟩=some (.int .i64 a1_0):=(blk_cell BK374.1 0).trans rfl;have hcz10_1:w5.cell? ⟨gb374,1,none⟩=some (.int .i64 a1_1):=(blk_cell BK374.1 1).trans rfl;have hfz10_0:=blk_frozen BK374.1 0;have hfz10_1:=blk_frozen BK374.1 1;have hcz11_0:w5.cell? ⟨gb375,0,none⟩=some (.int .i64 0):=(blk_cell BK375.1 0).trans rfl;have hcz11_1:w5.cell? ⟨gb375,1,none⟩=some (.int .i64 0):=(blk_cell BK375.1 1).trans rfl;have hfz11_0:=blk_frozen BK375.1 0;have hfz11_1:=blk_frozen BK375.1 1));refine bodyPost_ret (results_cell_row rfl _ _ gb375 54 #[.int .i64 (wrap64 ((wrap64 (a0_0*a1_0)) - (wrap64 (a0_1*a1_1)))),.int .i64 (wrap64 ((wrap64 ((wrap64 (a0_0*a1_1))+(wrap64 (a0_1*a1_0)))) - (wrap64 (a0_1*a1_1))))] (0,0) _ rfl (by (with_reducible repeat(first|refine blk_drewN ?_ _|refine blk_drew ?_|refine blk_alloc ?_ _));refine blk_put (cs:=#[.int .i64 (wrap64 ((wrap64 (a0_0*a1_0)) - (wrap64 (a0_1*a1_1)))),.int .i64 0]) ?_ 1 _ rfl;(with_reducible repeat(first|refine blk_drewN ?_ _|refine blk_drew ?_|refine blk_alloc ?_ _));refine blk_put (cs:=#[.int .i64 0,.int .i64 0]) ?_ 0 _ rfl;(with_reducible repeat(first|refine blk_drewN ?_ _|refine blk_drew ?_|refine blk_alloc ?_ _));exact BK375.1) Try.underlying54 rfl (by kernel_rfl)) rfl ?_;exact⟨by first|rfl|(simp [errW_none,errW_some] <;> rfl)|(simp [*,errW_none,errW_some] <;> rfl),by repeat(first|(with_reducible first|exact HB.1|apply below_alloc|apply pw_below_drewN|apply below_drew1|refine below_set ?_ GE373.1|refine below_set ?_ GE374.1|refine below_set ?_ GE375.1)|exact HB.1)⟩

/-! ### impl_cubic_less: function 45 -/
def impl_cubic_less.f (a0_0:Int) (a0_1:Int) (a1_0:Int) (a1_1:Int):Option (Int×Int):=some (wrap64 (a0_0 - a1_0),wrap64 (a0_1 - a1_1))
set_option maxHeartbeats 8000000 in
set_option maxRecDepth 100000 in
theorem impl_cubic_less.calls (a0_0:Int) (a0_1:Int) (a1_0:Int) (a1_1:Int) (r1:Int) (r2:Int) (w:World) (h:impl_cubic_less.f a0_0 a0_1 a1_0 a1_1=some (r1,r2)):
  Calls Try.prog 45 #[.agg #[.int .i64 a0_0,.int .i64 a0_1],.agg #[.int .i64 a1_0,.int .i64 a1_1]] w fun e w'=>e=.returned (.agg #[.int .i64 r1,.int .i64 r2])∧Below w.heap.size w w':=by
 have hu54:=Try.underlying54;have HB:=qAm (Below.refl w.heap.size w);have H:(some (wrap64 (a0_0 - a1_0),wrap64 (a0_1 - a1_1)))=some (r1,r2):=h;clear h;simp only [Option.some.injEq,Prod.mk.injEq] at H;obtain⟨rfl,rfl⟩:=H;go_enter Try.func45,Try.ntmps45;go_wp2_with (first|((with_reducible refine gate_dst (N:=2) rfl ?_);refine box_event qL (N:=2) qL (cs:=#[.int .i64 a0_0,.int .i64 a0_1]) (t:=54) qR ?_;intro gb376 hg w3 hbox hb;have n0_:=qAm (below_step qB111 hb);have n1_:=qAm (hbox);have n2_:=qAm ((by rw [hg];exact(below_size qB111):w.heap.size≤gb376));have n3_:=qAm ((by rw [hg];exact(below_size qB111):w.heap.size≤gb376));clear HB;have HB:=n0_;have BK376:=n1_;have GW376:=n2_;have GE376:=n3_;clear n0_ n1_ n2_ n3_;clear hb hbox hg)|((with_reducible refine gate_dst (N:=3) rfl ?_);refine box_event qL (N:=3) qL (cs:=#[.int .i64 a1_0,.int .i64 a1_1]) (t:=54) qR ?_;intro gb377 hg w4 hbox hb;have n0_:=qAm (blk_below (g:=gb376) (o:=.cells #[.int .i64 a0_0,.int .i64 a0_1] 54 (0,0)) qB145 hb);have n1_:=qAm (below_step qB98 hb);have n2_:=qAm (hbox);have n3_:=qAm ((by rw [hg];exact(below_size qB98):w.heap.size≤gb377));have n4_:=qAm ((by rw [hg];exact(below_size qB98):w.heap.size≤gb377));have n5_:=qAm ((by rw [hg];exact Nat.ne_of_lt (blk_lt (g:=gb376) (o:=.cells #[.int .i64 a0_0,.int .i64 a0_1] 54 (0,0)) qB145):gb376≠gb377));have n6_:=qAm ((by rw [hg];exact Nat.ne_of_gt (blk_lt (g:=gb376) (o:=.cells #[.int .i64 a0_0,.int .i64 a0_1] 54 (0,0)) qB145):gb377≠gb376));clear BK376;clear HB;have BK376:=n0_;have HB:=n1_;have BK377:=n2_;have GW377:=n3_;have GE377:=n4_;have NB376_377:=n5_;have NB377_376:=n6_;clear n0_ n1_ n2_ n3_ n4_ n5_ n6_;clear hb hbox hg)|((with_reducible refine gate_dst (N:=4) rfl ?_);refine box_event qL (N:=4) qL (cs:=#[.int .i64 0,.int .i64 0]) (t:=54) qR ?_;intro gb378 hg w5 hbox hb;have n0_:=qAm (blk_below (g:=gb376) (o:=.cells #[.int .i64 a0_0,.int .i64 a0_1] 54 (0,0)) qB145 hb);have n1_:=qAm (blk_below (g:=gb377) (o:=.cells #[.int .i64 a1_0,.int .i64 a1_1] 54 (0,0)) qB146 hb);have n2_:=qAm (below_step qB75 hb);have n3_:=qAm (hbox);have n4_:=qAm ((by rw [hg];exact(below_size qB75):w.heap.size≤gb378));have n5_:=qAm ((by rw [hg];exact(below_size qB75):w.heap.size≤gb378));have n6_:=qAm ((by rw [hg];exact Nat.ne_of_lt (blk_lt (g:=gb376) (o:=.cells #[.int .i64 a0_0,.int .i64 a0_1] 54 (0,0)) qB145):gb376≠gb378));have n7_:=qAm ((by rw [hg];exact Nat.ne_of_gt (blk_lt (g:=gb376) (o:=.cells #[.int .i64 a0_0,.int .i64 a0_1] 54 (0,0)) qB145):gb378≠gb376));have n8_:=qAm ((by rw [hg];exact Nat.ne_of_lt (blk_lt (g:=gb377) (o:=.cells #[.int .i64 a1_0,.int .i64 a1_1] 54 (0,0)) qB146):gb377≠gb378));have n9_:=qAm ((by rw [hg];exact Nat.ne_of_gt (blk_lt (g:=gb377) (o:=.cells #[.int .i64 a1_0,.int .i64 a1_1] 54 (0,0)) qB146):gb378≠gb377));clear BK376;clear BK377;clear HB;have BK376:=n0_;have BK377:=n1_;have HB:=n2_;have BK378:=n3_;have GW378:=n4_;have GE378:=n5_;have NB376_378:=n6_;have NB378_376:=n7_;have NB377_378:=n8_;have NB378_377:=n9_;clear n0_ n1_ n2_ n3_ n4_ n5_ n6_ n7_ n8_ n9_;clear hb hbox hg;have hnb6:=NB376_377.1;have hnc6:=NB377_376.1;have hnb7:=NB376_378.1;have hnc7:=NB378_376.1;have hcz8_0:w5.cell? ⟨gb376,0,none⟩=some (.int .i64 a0_0):=(blk_cell BK376.1 0).trans rfl;have hcz8_1:w5.cell? ⟨gb376,1,none⟩=some (.int .i64 a0_1):=(blk_cell BK376.1 1).trans rfl;have hfz8_0:=blk_frozen BK376.1 0;have hfz8_1:=blk_frozen BK376.1 1;have hnb9:=NB377_378.1;have hnc9:=NB378_377.1;have hcz10_0:w5.cell? ⟨gb377,0,none⟩=some (.int .i64 a1_0):=(blk_cell BK377.1 0).trans rfl;have hcz10_1:w5.cell? ⟨gb377,1,none⟩=some (.int .i64 a1_1):=(blk_cell BK377.1 1).trans rfl;have hfz10_0:=blk_frozen BK377.1 0;have hfz10_1:=blk_frozen BK377.1 1;have hcz11_0:w5.cell? ⟨gb378,0,none⟩=some (.int .i64 0):=(blk_cell BK378.1 0).trans rfl;have hcz11_1:w5.cell? ⟨gb378,1,none⟩=some (.int .i64 0):=(blk_cell BK378.1 1).trans rfl;have hfz11_0:=blk_frozen BK378.1 0;have hfz11_1:=blk_frozen BK378.1 1));refine bodyPost_ret (results_cell_row rfl _ _ gb378 54 #[.int .i64 (wrap64 (a0_0 - a1_0)),.int .i64 (wrap64 (a0_1 - a1_1))] (0,0) _ rfl (by (with_reducible repeat(first|refine blk_drewN ?_ _|refine blk_drew ?_|refine blk_alloc ?_ _));refine blk_put (cs:=#[.int .i64 (wrap64 (a0_0 - a1_0)),.int .i64 0]) ?_ 1 _ rfl;(with_reducible repeat(first|refine blk_drewN ?_ _|refine blk_drew ?_|refine blk_alloc ?_ _));refine blk_put (cs:=#[.int .i64 0,.int .i64 0]) ?_ 0 _ rfl;(with_reducible repeat(first|refine blk_drewN ?_ _|refine blk_drew ?_|refine blk_alloc ?_ _));exact BK378.1) Try.underlying54 rfl (by kernel_rfl)) rfl ?_;exact⟨by first|rfl|(simp [errW_none,errW_some] <;> rfl)|(simp [*,errW_none,errW_some] <;> rfl),by repeat(first|(with_reducible first|exact HB.1|apply below_alloc|apply pw_below_drewN|apply below_drew1|refine below_set ?_ GE376.1|refine below_set ?_ GE377.1|refine below_set ?_ GE378.1)|exact HB.1)⟩

/-! ### impl_cubic_conjugate: function 56 -/
def impl_cubic_conjugate.f (a0_0:Int) (a0_1:Int):Option (Int×Int):=some (wrap64 (a0_0 - a0_1),wrap64 (-a0_1))
set_option maxHeartbeats 8000000 in
set_option maxRecDepth 100000 in
theorem impl_cubic_conjugate.calls (a0_0:Int) (a0_1:Int) (r1:Int) (r2:Int) (w:World) (h:impl_cubic_conjugate.f a0_0 a0_1=some (r1,r2)):
  Calls Try.prog 56 #[.agg #[.int .i64 a0_0,.int .i64 a0_1]] w fun e w'=>e=.returned (.agg #[.int .i64 r1,.int .i64 r2])∧Below w.heap.size w w':=by
 have hu54:=Try.underlying54;have HB:=qAm (Below.refl w.heap.size w);have H:(some (wrap64 (a0_0 - a0_1),wrap64 (-a0_1)))=some (r1,r2):=h;clear h;simp only [Option.some.injEq,Prod.mk.injEq] at H;obtain⟨rfl,rfl⟩:=H;go_enter Try.func56,Try.ntmps56;go_wp2_with (first|((with_reducible refine gate_dst (N:=1) rfl ?_);refine box_event qL (N:=1) qL (cs:=#[.int .i64 a0_0,.int .i64 a0_1]) (t:=54) qR ?_;intro gb379 hg w2 hbox hb;have n0_:=qAm (below_step qB111 hb);have n1_:=qAm (hbox);have n2_:=qAm ((by rw [hg];exact(below_size qB111):w.heap.size≤gb379));have n3_:=qAm ((by rw [hg];exact(below_size qB111):w.heap.size≤gb379));clear HB;have HB:=n0_;have BK379:=n1_;have GW379:=n2_;have GE379:=n3_;clear n0_ n1_ n2_ n3_;clear hb hbox hg)|((with_reducible refine gate_dst (N:=2) rfl ?_);refine box_event qL (N:=2) qL (cs:=#[.int .i64 0,.int .i64 0]) (t:=54) qR ?_;intro gb380 hg w3 hbox hb;have n0_:=qAm (blk_below (g:=gb379) (o:=.cells #[.int .i64 a0_0,.int .i64 a0_1] 54 (0,0)) qB147 hb);have n1_:=qAm (below_step qB99 hb);have n2_:=qAm (hbox);have n3_:=qAm ((by rw [hg];exact(below_size qB99):w.heap.size≤gb380));have n4_:=qAm ((by rw [hg];exact(below_size qB99):w.heap.size≤gb380));have n5_:=qAm ((by rw [hg];exact Nat.ne_of_lt (blk_lt (g:=gb379) (o:=.cells #[.int .i64 a0_0,.int .i64 a0_1] 54 (0,0)) qB147):gb379≠gb380));have n6_:=qAm ((by rw [hg];exact Nat.ne_of_gt (blk_lt (g:=gb379) (o:=.cells #[.int .i64 a0_0,.int .i64 a0_1] 54 (0,0)) qB147):gb380≠gb379));clear BK379;clear HB;have BK379:=n0_;have HB:=n1_;have BK380:=n2_;have GW380:=n3_;have GE380:=n4_;have NB379_380:=n5_;have NB380_379:=n6_;clear n0_ n1_ n2_ n3_ n4_ n5_ n6_;clear hb hbox hg;have hnb4:=NB379_380.1;have hnc4:=NB380_379.1;have hcz5_0:w3.cell? ⟨gb379,0,none⟩=some (.int .i64 a0_0):=(blk_cell BK379.1 0).trans rfl;have hcz5_1:w3.cell? ⟨gb379,1,none⟩=some (.int .i64 a0_1):=(blk_cell BK379.1 1).trans rfl;have hfz5_0:=blk_frozen BK379.1 0;have hfz5_1:=blk_frozen BK379.1 1;have hcz6_0:w3.cell? ⟨gb380,0,none⟩=some (.int .i64 0):=(blk_cell BK380.1 0).trans rfl;have hcz6_1:w3.cell? ⟨gb380,1,none⟩=some (.int .i64 0):=(blk_cell BK380.1 1).trans rfl;have hfz6_0:=blk_frozen BK380.1 0;have hfz6_1:=blk_frozen BK380.1 1));refine bodyPost_ret (results_cell_row rfl _ _ gb380 54 #[.int .i64 (wrap64 (a0_0 - a0_1)),.int .i64 (wrap64 (-a0_1))] (0,0) _ rfl (by (with_reducible repeat(first|refine blk_drewN ?_ _|refine blk_drew ?_|refine blk_alloc ?_ _));refine blk_put (cs:=#[.int .i64 (wrap64 (a0_0 - a0_1)),.int .i64 0]) ?_ 1 _ rfl;(with_reducible repeat(first|refine blk_drewN ?_ _|refine blk_drew ?_|refine blk_alloc ?_ _));refine blk_put (cs:=#[.int .i64 0,.int .i64 0]) ?_ 0 _ rfl;(with_reducible repeat(first|refine blk_drewN ?_ _|refine blk_drew ?_|refine blk_alloc ?_ _));exact BK380.1) Try.underlying54 rfl (by kernel_rfl)) rfl ?_;exact⟨by first|rfl|(simp [errW_none,errW_some] <;> rfl)|(simp [*,errW_none,errW_some] <;> rfl),by repeat(first|(with_reducible first|exact HB.1|apply below_alloc|apply pw_below_drewN|apply below_drew1|refine below_set ?_ GE379.1|refine below_set ?_ GE380.1)|exact HB.1)⟩

/-! ### impl_around: function 67 -/
def impl_around.f (a0:Int) (a1:Int):Option (Int):=if a1=0 then (none) else (some (Int.tmod (wrap64 ((Int.tmod a0 a1)+a1)) a1))
set_option maxHeartbeats 8000000 in
set_option maxRecDepth 100000 in
theorem impl_around.calls (a0:Int) (a1:Int) (r:Int) (w:World) (h:impl_around.f a0 a1=some r):
  Calls Try.prog 67 #[.int .i64 a0,.int .i64 a1] w fun e w'=>e=.returned (.int .i64 r)∧Drawn0 w w':=by
 have H:(if a1=0 then (none) else (some (Int.tmod (wrap64 ((Int.tmod a0 a1)+a1)) a1)))=some r:=h;clear h
 by_cases c3:a1=0
 ·rw [if_pos c3] at H;exact absurd H (by simp)
 ·rw [if_neg c3] at H;have c3b0:(a1==0)=false:=beq_eq_false_iff_ne.mpr c3;have c3b1:(a1 !=0)=true:=bne_iff_ne.mpr c3;obtain rfl:=Option.some.inj H;go_enter Try.func67,Try.ntmps67;go_wp2;go_ret;exact⟨by first|rfl|(simp;done)|(simp [*];done),by repeat(first|exact Drawn0.refl _|apply Drawn0.step)⟩

/-! ### impl_down: function 57 -/
def impl_down.f (a0:Int) (a1:Int):Option (Int):=(impl_around.f a0 a1).bind fun t381=>(if a1=0 then (none) else (some (wrap64 (Int.tdiv (wrap64 (a0 - t381)) a1))))
set_option maxHeartbeats 8000000 in
set_option maxRecDepth 100000 in
theorem impl_down.calls (a0:Int) (a1:Int) (r:Int) (w:World) (h:impl_down.f a0 a1=some r):
  Calls Try.prog 57 #[.int .i64 a0,.int .i64 a1] w fun e w'=>e=.returned (.int .i64 r)∧Drawn0 w w':=by
 have H:((impl_around.f a0 a1).bind fun t381=>(if a1=0 then (none) else (some (wrap64 (Int.tdiv (wrap64 (a0 - t381)) a1)))))=some r:=h;clear h;replace H:=qOb H;obtain⟨t381,A30,H⟩:=H;replace H:(if a1=0 then (none) else (some (wrap64 (Int.tdiv (wrap64 (a0 - t381)) a1))))=some r:=H;have A3:=qAm A30;clear A30
 by_cases c4:a1=0
 ·rw [if_pos c4] at H;exact absurd H (by simp)
 ·rw [if_neg c4] at H;have c4b0:(a1==0)=false:=beq_eq_false_iff_ne.mpr c4;have c4b1:(a1 !=0)=true:=bne_iff_ne.mpr c4;obtain rfl:=Option.some.inj H;go_enter Try.func57,Try.ntmps57;go_wp2_with (first|((with_reducible refine gate_callee (f:=67) rfl ?_);refine goesL_ (some 8) rfl rfl Try.func67 (by kernel_rfl) rfl #[.int .i64 a0,.int .i64 a1] rfl qB108 ?_;(with_reducible refine(impl_around.calls a0 a1 t381 _ A3.1).mono ?_);rintro e w' ⟨rfl,⟨nd,rfl⟩⟩;refine⟨_,rfl,?_⟩));go_ret;exact⟨by first|rfl|(simp;done)|(simp [*];done),by repeat(first|exact Drawn0.refl _|apply Drawn0.step)⟩

end Go.Proofs.Ytejpliodhnglbaa.PFnExactCubicSymbol
