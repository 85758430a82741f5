/- The functions that the law reaches, as plain functions, each with the proof that the program comes to it; no condition. Written by a program of this session (wip/mp.py) over the printing of the kit; what is marked HAND is told by hand. -/
import Derived.Test.YtefhabkikaadiaaPFnExactCycloAtResiduesx0
import Derived.Test.YtefhabkikaadiaaPFnExactCycloAtResiduesx1
import Derived.Test.YtefhabkikaadiaaPFnExactCycloAtResiduesx3
namespace Go.Proofs.Ytefhabkikaadiaa.PFnExactCycloAtResidues
open Go.RowKit Go.Proofs.YtefhabkikaadiaaW.PrintWords Go.Proofs.YtefhabkikaadiaaW.PrintLast Go.Proofs.YtefhabkikaadiaaW.PrintMore
attribute [local go_sem] max2_int min2_int max_two min_two max_three min_three max_four min_four   -- for this text's walks alone
set_option linter.unusedVariables false
set_option linter.unusedSimpArgs false

/-! ### spec_CycloAtResidues: function 29 -/
mutual
def spec_CycloAtResidues.l0:Nat→Int→Int→List Int→List Int→Int→Option (Int×List Int×Int)
  |0,_,_,_,_,_=>none
  |k+1,x0,x1,x2,x9,x10=>if x10<(x2.length:Int) then (if 0≤x10 then ((spec_l01In.f (rd x2 x10) 0 (wrap64 (x1 - 1))).bind fun t170=>(if t170=true then (spec_CycloAtResidues.l0 k x0 x1 x2 x9 (wrap64 (x10+1))) else (some (0,([]:List Int),2)))) else (none)) else ((spec_l01Zero.f k x0).bind fun bt171=>(spec_CycloAtResidues.l1 k x1 x2 x9 0 bt171.1 bt171.2))
def spec_CycloAtResidues.l1:Nat→Int→List Int→List Int→Int→Int→List Int→Option (Int×List Int×Int)
  |0,_,_,_,_,_,_=>none
  |k+1,x1,x2,x9,x12,x176000,x176001=>if x12<(x9.length:Int) then (if 0≤x12 then (if x12<(x2.length:Int) then (spec_CycloAtResidues.l2 k x1 x2 x9 x12 (([1]:List Int)) (rd x2 x12) 0 x176000 x176001) else (none)) else (none)) else (some (x176000,x176001,0))
def spec_CycloAtResidues.l2:Nat→Int→List Int→List Int→Int→List Int→Int→Int→Int→List Int→Option (Int×List Int×Int)
  |0,_,_,_,_,_,_,_,_,_=>none
  |k+1,x1,x2,x9,x12,x13,x14,x15,x176000,x176001=>if x15<(x9.length:Int) then (if x15=x12 then (spec_CycloAtResidues.l2 k x1 x2 x9 x12 x13 x14 (wrap64 (x15+1)) x176000 x176001) else (if 0≤x12 then (if x12<(x9.length:Int) then (if 0≤x15 then ((spec_l07Inverse.f k x1 (wrap64 ((rd x9 x12) - (rd x9 x15)))).bind fun t182=>(if x1=0 then (none) else (if 0≤(wrap64 ((x13.length:Int)+1)) then (if (wrap64 ((x13.length:Int)+1):Int).toNat≤35184372088832 then (spec_CycloAtResidues.l3 k x1 x2 x9 x12 x13 (Int.tmod (wrap64 (x14*t182)) x1) x15 (List.replicate (wrap64 ((x13.length:Int)+1):Int).toNat 0) 0 x176000 x176001) else (none)) else (none)))) else (none)) else (none)) else (none))) else (spec_CycloAtResidues.l4 k x1 x2 x9 x12 x13 x14 0 x176000 x176001)
def spec_CycloAtResidues.l3:Nat→Int→List Int→List Int→Int→List Int→Int→Int→List Int→Int→Int→List Int→Option (Int×List Int×Int)
  |0,_,_,_,_,_,_,_,_,_,_,_=>none
  |k+1,x1,x2,x9,x12,x13,x14,x15,x16,x17,x176000,x176001=>if x17<(x13.length:Int) then (if 0≤x17 then (if x17<(x16.length:Int) then (if 0≤x15 then (if x15<(x9.length:Int) then (if x1=0 then (none) else ((some (x16.set (x17:Int).toNat (Int.tmod (wrap64 ((rd x16 x17)+(wrap64 ((rd x13 x17)*(wrap64 (x1 - (rd x9 x15))))))) x1):List Int)).bind fun y189=>(if 0≤(wrap64 (x17+1)) then (if (wrap64 (x17+1))<(x16.length:Int) then (spec_CycloAtResidues.l3 k x1 x2 x9 x12 x13 x14 x15 (y189.set ((wrap64 (x17+1)):Int).toNat (Int.tmod (wrap64 ((rd y189 (wrap64 (x17+1)))+(rd x13 x17))) x1)) (wrap64 (x17+1)) x176000 x176001) else (none)) else (none)))) else (none)) else (none)) else (none)) else (none)) else (spec_CycloAtResidues.l2 k x1 x2 x9 x12 x16 x14 (wrap64 (x15+1)) x176000 x176001)
def spec_CycloAtResidues.l4:Nat→Int→List Int→List Int→Int→List Int→Int→Int→Int→List Int→Option (Int×List Int×Int)
  |0,_,_,_,_,_,_,_,_,_=>none
  |k+1,x1,x2,x9,x12,x13,x14,x18,x176000,x176001=>if x18<(x13.length:Int) then (if 0≤x18 then (if x18<(x176001.length:Int) then (if x1=0 then (none) else (spec_CycloAtResidues.l4 k x1 x2 x9 x12 x13 x14 (wrap64 (x18+1)) x176000 (x176001.set (x18:Int).toNat (Int.tmod (wrap64 ((rd x176001 x18)+(wrap64 (x14*(rd x13 x18))))) x1)))) else (none)) else (none)) else (spec_CycloAtResidues.l1 k x1 x2 x9 (wrap64 (x12+1)) x176000 x176001)
end
def spec_CycloAtResidues.f (k:Nat) (a0:Int) (a1:Int) (l2:List Int):Option (Int×List Int×Int):=(spec_l07Code.f k a0 a1).bind fun t164=>(if t164=0 then ((spec_l07Fully.f a0 a1).bind fun t165=>(if t165=true then ((spec_l07Roots.f k a0 a1).bind fun t166=>(if (l2.length:Int)=(t166.length:Int) then (spec_CycloAtResidues.l0 k a0 a1 l2 t166 0) else (some (0,([]:List Int),2)))) else (some (0,([]:List Int),2)))) else (some (0,([]:List Int),t164)))
theorem spec_CycloAtResidues.mono_l:∀k,(∀y0 y1 y2 y3 y4,LeO (spec_CycloAtResidues.l0 k y0 y1 y2 y3 y4) (spec_CycloAtResidues.l0 (k+1) y0 y1 y2 y3 y4))∧(∀y0 y1 y2 y3 y4 y5,LeO (spec_CycloAtResidues.l1 k y0 y1 y2 y3 y4 y5) (spec_CycloAtResidues.l1 (k+1) y0 y1 y2 y3 y4 y5))∧(∀y0 y1 y2 y3 y4 y5 y6 y7 y8,LeO (spec_CycloAtResidues.l2 k y0 y1 y2 y3 y4 y5 y6 y7 y8) (spec_CycloAtResidues.l2 (k+1) y0 y1 y2 y3 y4 y5 y6 y7 y8))∧(∀y0 y1 y2 y3 y4 y5 y6 y7 y8 y9 y10,LeO (spec_CycloAtResidues.l3 k y0 y1 y2 y3 y4 y5 y6 y7 y8 y9 y10) (spec_CycloAtResidues.l3 (k+1) y0 y1 y2 y3 y4 y5 y6 y7 y8 y9 y10))∧(∀y0 y1 y2 y3 y4 y5 y6 y7 y8,LeO (spec_CycloAtResidues.l4 k y0 y1 y2 y3 y4 y5 y6 y7 y8) (spec_CycloAtResidues.l4 (k+1) y0 y1 y2 y3 y4 y5 y6 y7 y8))
  |0=>⟨fun _ _ _ _ _ r h=>by simp [spec_CycloAtResidues.l0] at h,fun _ _ _ _ _ _ r h=>by simp [spec_CycloAtResidues.l1] at h,fun _ _ _ _ _ _ _ _ _ r h=>by simp [spec_CycloAtResidues.l2] at h,fun _ _ _ _ _ _ _ _ _ _ _ r h=>by simp [spec_CycloAtResidues.l3] at h,fun _ _ _ _ _ _ _ _ _ r h=>by simp [spec_CycloAtResidues.l4] at h⟩
  |k+1=>by
    obtain⟨ih0,ih1,ih2,ih3,ih4⟩:=spec_CycloAtResidues.mono_l k;refine⟨?_,?_,?_,?_,?_⟩
    · intro y0 y1 y2 y3 y4
      unfold spec_CycloAtResidues.l0;repeat' first
      |(with_reducible exact ih0 _ _ _ _ _)
      |(with_reducible exact ih1 _ _ _ _ _ _)
      |(with_reducible exact ih2 _ _ _ _ _ _ _ _ _)
      |(with_reducible exact ih3 _ _ _ _ _ _ _ _ _ _ _)
      |(with_reducible exact ih4 _ _ _ _ _ _ _ _ _)
      |(with_reducible exact spec_l01Zero.mono _ _)
      |(with_reducible exact spec_l07Code.mono _ _ _)
      |(with_reducible exact spec_l07Inverse.mono _ _ _)
      |(with_reducible exact spec_l07Roots.mono _ _ _)
      |(with_reducible exact LeO.refl _)
      |(with_reducible exact LeO.none _)
      |(with_reducible refine LeO.ite ?_ ?_)
      |(with_reducible refine LeO.bind ?_ (fun _=>?_))
      |exact ih0 _ _ _ _ _
      |exact ih1 _ _ _ _ _ _
      |exact ih2 _ _ _ _ _ _ _ _ _
      |exact ih3 _ _ _ _ _ _ _ _ _ _ _
      |exact ih4 _ _ _ _ _ _ _ _ _
      |exact spec_l01Zero.mono _ _
      |exact spec_l07Code.mono _ _ _
      |exact spec_l07Inverse.mono _ _ _
      |exact spec_l07Roots.mono _ _ _
      |exact LeO.none _
      |refine LeO.ite ?_ ?_
      |refine LeO.bind ?_ (fun _=>?_)
    · intro y0 y1 y2 y3 y4 y5
      unfold spec_CycloAtResidues.l1;repeat' first
      |(with_reducible exact ih0 _ _ _ _ _)
      |(with_reducible exact ih1 _ _ _ _ _ _)
      |(with_reducible exact ih2 _ _ _ _ _ _ _ _ _)
      |(with_reducible exact ih3 _ _ _ _ _ _ _ _ _ _ _)
      |(with_reducible exact ih4 _ _ _ _ _ _ _ _ _)
      |(with_reducible exact spec_l01Zero.mono _ _)
      |(with_reducible exact spec_l07Code.mono _ _ _)
      |(with_reducible exact spec_l07Inverse.mono _ _ _)
      |(with_reducible exact spec_l07Roots.mono _ _ _)
      |(with_reducible exact LeO.refl _)
      |(with_reducible exact LeO.none _)
      |(with_reducible refine LeO.ite ?_ ?_)
      |(with_reducible refine LeO.bind ?_ (fun _=>?_))
      |exact ih0 _ _ _ _ _
      |exact ih1 _ _ _ _ _ _
      |exact ih2 _ _ _ _ _ _ _ _ _
      |exact ih3 _ _ _ _ _ _ _ _ _ _ _
      |exact ih4 _ _ _ _ _ _ _ _ _
      |exact spec_l01Zero.mono _ _
      |exact spec_l07Code.mono _ _ _
      |exact spec_l07Inverse.mono _ _ _
      |exact spec_l07Roots.mono _ _ _
      |exact LeO.none _
      |refine LeO.ite ?_ ?_
      |refine LeO.bind ?_ (fun _=>?_)
    · intro y0 y1 y2 y3 y4 y5 y6 y7 y8
      unfold spec_CycloAtResidues.l2;repeat' first
      |(with_reducible exact ih0 _ _ _ _ _)
      |(with_reducible exact ih1 _ _ _ _ _ _)
      |(with_reducible exact ih2 _ _ _ _ _ _ _ _ _)
      |(with_reducible exact ih3 _ _ _ _ _ _ _ _ _ _ _)
      |(with_reducible exact ih4 _ _ _ _ _ _ _ _ _)
      |(with_reducible exact spec_l01Zero.mono _ _)
      |(with_reducible exact spec_l07Code.mono _ _ _)
      |(with_reducible exact spec_l07Inverse.mono _ _ _)
      |(with_reducible exact spec_l07Roots.mono _ _ _)
      |(with_reducible exact LeO.refl _)
      |(with_reducible exact LeO.none _)
      |(with_reducible refine LeO.ite ?_ ?_)
      |(with_reducible refine LeO.bind ?_ (fun _=>?_))
      |exact ih0 _ _ _ _ _
      |exact ih1 _ _ _ _ _ _
      |exact ih2 _ _ _ _ _ _ _ _ _
      |exact ih3 _ _ _ _ _ _ _ _ _ _ _
      |exact ih4 _ _ _ _ _ _ _ _ _
      |exact spec_l01Zero.mono _ _
      |exact spec_l07Code.mono _ _ _
      |exact spec_l07Inverse.mono _ _ _
      |exact spec_l07Roots.mono _ _ _
      |exact LeO.none _
      |refine LeO.ite ?_ ?_
      |refine LeO.bind ?_ (fun _=>?_)
    · intro y0 y1 y2 y3 y4 y5 y6 y7 y8 y9 y10
      unfold spec_CycloAtResidues.l3;repeat' first
      |(with_reducible exact ih0 _ _ _ _ _)
      |(with_reducible exact ih1 _ _ _ _ _ _)
      |(with_reducible exact ih2 _ _ _ _ _ _ _ _ _)
      |(with_reducible exact ih3 _ _ _ _ _ _ _ _ _ _ _)
      |(with_reducible exact ih4 _ _ _ _ _ _ _ _ _)
      |(with_reducible exact spec_l01Zero.mono _ _)
      |(with_reducible exact spec_l07Code.mono _ _ _)
      |(with_reducible exact spec_l07Inverse.mono _ _ _)
      |(with_reducible exact spec_l07Roots.mono _ _ _)
      |(with_reducible exact LeO.refl _)
      |(with_reducible exact LeO.none _)
      |(with_reducible refine LeO.ite ?_ ?_)
      |(with_reducible refine LeO.bind ?_ (fun _=>?_))
      |exact ih0 _ _ _ _ _
      |exact ih1 _ _ _ _ _ _
      |exact ih2 _ _ _ _ _ _ _ _ _
      |exact ih3 _ _ _ _ _ _ _ _ _ _ _
      |exact ih4 _ _ _ _ _ _ _ _ _
      |exact spec_l01Zero.mono _ _
      |exact spec_l07Code.mono _ _ _
      |exact spec_l07Inverse.mono _ _ _
      |exact spec_l07Roots.mono _ _ _
      |exact LeO.none _
      |refine LeO.ite ?_ ?_
      |refine LeO.bind ?_ (fun _=>?_)
    · intro y0 y1 y2 y3 y4 y5 y6 y7 y8
      unfold spec_CycloAtResidues.l4;repeat' first
      |(with_reducible exact ih0 _ _ _ _ _)
      |(with_reducible exact ih1 _ _ _ _ _ _)
      |(with_reducible exact ih2 _ _ _ _ _ _ _ _ _)
      |(with_reducible exact ih3 _ _ _ _ _ _ _ _ _ _ _)
      |(with_reducible exact ih4 _ _ _ _ _ _ _ _ _)
      |(with_reducible exact spec_l01Zero.mono _ _)
      |(with_reducible exact spec_l07Code.mono _ _ _)
      |(with_reducible exact spec_l07Inverse.mono _ _ _)
      |(with_reducible exact spec_l07Roots.mono _ _ _)
      |(with_reducible exact LeO.refl _)
      |(with_reducible exact LeO.none _)
      |(with_reducible refine LeO.ite ?_ ?_)
      |(with_reducible refine LeO.bind ?_ (fun _=>?_))
      |exact ih0 _ _ _ _ _
      |exact ih1 _ _ _ _ _ _
      |exact ih2 _ _ _ _ _ _ _ _ _
      |exact ih3 _ _ _ _ _ _ _ _ _ _ _
      |exact ih4 _ _ _ _ _ _ _ _ _
      |exact spec_l01Zero.mono _ _
      |exact spec_l07Code.mono _ _ _
      |exact spec_l07Inverse.mono _ _ _
      |exact spec_l07Roots.mono _ _ _
      |exact LeO.none _
      |refine LeO.ite ?_ ?_
      |refine LeO.bind ?_ (fun _=>?_)
theorem spec_CycloAtResidues.mono:∀a0 a1 a2 k,LeO (spec_CycloAtResidues.f k a0 a1 a2) (spec_CycloAtResidues.f (k+1) a0 a1 a2):=by
  intro a0 a1 a2 k;obtain⟨ih0,ih1,ih2,ih3,ih4⟩:=spec_CycloAtResidues.mono_l k;unfold spec_CycloAtResidues.f;repeat' first
      |(with_reducible exact ih0 _ _ _ _ _)
      |(with_reducible exact ih1 _ _ _ _ _ _)
      |(with_reducible exact ih2 _ _ _ _ _ _ _ _ _)
      |(with_reducible exact ih3 _ _ _ _ _ _ _ _ _ _ _)
      |(with_reducible exact ih4 _ _ _ _ _ _ _ _ _)
      |(with_reducible exact spec_l01Zero.mono _ _)
      |(with_reducible exact spec_l07Code.mono _ _ _)
      |(with_reducible exact spec_l07Inverse.mono _ _ _)
      |(with_reducible exact spec_l07Roots.mono _ _ _)
      |(with_reducible exact LeO.refl _)
      |(with_reducible exact LeO.none _)
      |(with_reducible refine LeO.ite ?_ ?_)
      |(with_reducible refine LeO.bind ?_ (fun _=>?_))
      |exact ih0 _ _ _ _ _
      |exact ih1 _ _ _ _ _ _
      |exact ih2 _ _ _ _ _ _ _ _ _
      |exact ih3 _ _ _ _ _ _ _ _ _ _ _
      |exact ih4 _ _ _ _ _ _ _ _ _
      |exact spec_l01Zero.mono _ _
      |exact spec_l07Code.mono _ _ _
      |exact spec_l07Inverse.mono _ _ _
      |exact spec_l07Roots.mono _ _ _
      |exact LeO.none _
      |refine LeO.ite ?_ ?_
      |refine LeO.bind ?_ (fun _=>?_)
def spec_CycloAtResidues.T23:Bool×List (List Nat×List Nat):=(true,[([],[]),([],[]),([],[]),([],[]),([2,3],[2,3]),([4],[4]),([],[]),([],[]),([6,7],[6,7]),([8],[8]),([5,9],[5,9]),([1,10],[1,10]),([0,11],[0,11]),([],[]),([12,13],[12,13]),([14,11,0,1,2,3,4,5,6,7,8,9,10,11,12,13,14],[0,14])])
def spec_CycloAtResidues.B23:List Nat:=[0,0,0,0,12,28,0,0,192,448,1020,2046,4095,0,16383,32767]
theorem spec_CycloAtResidues.tab23:rtab .any (opsOf Try.f29 23)=spec_CycloAtResidues.T23:=by kernel_rfl
theorem spec_CycloAtResidues.bits23:waitsOk spec_CycloAtResidues.T23.2 spec_CycloAtResidues.B23=true:=by kernel_rfl
def spec_CycloAtResidues.T28:Bool×List (List Nat×List Nat):=(true,[([],[]),([],[]),([],[]),([],[]),([2,3],[2,3]),([4],[4]),([],[]),([],[]),([6,7],[6,7]),([8],[8]),([],[]),([],[]),([],[]),([11,12],[11,12]),([13],[13]),([10,14],[10,14]),([9,15],[9,15]),([5,16],[5,16]),([],[]),([17,18],[17,18]),([0,1,0,1,2,3,4,5,6,7,8,9,10,11,12,13,14,15,16,17,18,19],[0,1]),([20,19,0,1,2,3,4,5,6,7,8,9,10,11,12,13,14,15,16,17,18,19],[19,20])])
def spec_CycloAtResidues.B28:List Nat:=[0,0,0,0,12,28,0,0,192,448,0,0,0,6144,14336,31744,65472,131068,0,524284,1048575,2097151]
theorem spec_CycloAtResidues.tab28:rtab .any (opsOf Try.f29 28)=spec_CycloAtResidues.T28:=by kernel_rfl
theorem spec_CycloAtResidues.bits28:waitsOk spec_CycloAtResidues.T28.2 spec_CycloAtResidues.B28=true:=by kernel_rfl
def spec_CycloAtResidues.T29:Bool×List (List Nat×List Nat):=(true,[([],[]),([],[]),([1],[1]),([],[]),([],[]),([4],[4]),([3,5],[3,5]),([6],[6]),([],[]),([],[]),([8,9],[8,9]),([10],[10]),([7,11],[7,11]),([],[]),([12,13],[12,13]),([0,2,0,1,2,3,4,5,6,7,8,9,10,11,12,13,14],[0,2]),([15,14,0,1,2,3,4,5,6,7,8,9,10,11,12,13,14],[14,15])])
def spec_CycloAtResidues.B29:List Nat:=[0,0,2,0,0,16,56,120,0,0,768,1792,4088,0,16376,32767,65535]
theorem spec_CycloAtResidues.tab29:rtab .any (opsOf Try.f29 29)=spec_CycloAtResidues.T29:=by kernel_rfl
theorem spec_CycloAtResidues.bits29:waitsOk spec_CycloAtResidues.T29.2 spec_CycloAtResidues.B29=true:=by kernel_rfl
def spec_CycloAtResidues.T34:Bool×List (List Nat×List Nat):=(true,[([],[]),([0],[0]),([],[]),([],[]),([3],[3]),([],[]),([4,5],[4,5]),([6],[6]),([],[]),([],[]),([],[]),([9,10],[9,10]),([11],[11]),([8,12],[8,12]),([7,13],[7,13]),([],[]),([14,15],[14,15]),([1,2,0,1,2,3,4,5,6,7,8,9,10,11,12,13,14,15,16],[1,2]),([17,16,0,1,2,3,4,5,6,7,8,9,10,11,12,13,14,15,16],[16,17])])
def spec_CycloAtResidues.B34:List Nat:=[0,1,0,0,8,0,56,120,0,0,0,1536,3584,7936,16376,0,65528,131071,262143]
theorem spec_CycloAtResidues.tab34:rtab .any (opsOf Try.f29 34)=spec_CycloAtResidues.T34:=by kernel_rfl
theorem spec_CycloAtResidues.bits34:waitsOk spec_CycloAtResidues.T34.2 spec_CycloAtResidues.B34=true:=by kernel_rfl
set_option maxHeartbeats 8000000 in
set_option maxRecDepth 100000 in
theorem spec_CycloAtResidues.calls (k:Nat) (a0:Int) (a1:Int) (A2:Option Addr) (c2:Nat) (l2:List Int) (r1:Int) (r2:List Int) (r3:Int) (w:World) (hr2:Kd.C (Kd.int .i64) w A2 l2.length l2) (hc2:l2.length≤c2) (h:spec_CycloAtResidues.f k a0 a1 l2=some (r1,r2,r3)):
    Calls Try.prog 29 #[.int .i64 a0,.int .i64 a1,.slice A2 l2.length c2] w fun e w'=>∃v1_:Value,e=.returned (.tuple #[.agg #[.int .i64 r1,v1_],.int .i64 r3])∧Kd.R (Kd.int .i64) 2 w' w.heap.size (fun _=>True) v1_ r2∧Below w.heap.size w w':=by
  have hu28:=Try.underlying28;have HR2:=qAm hr2;have HC2:=qAm hc2;clear hr2 hc2;have HB:=qAm (Below.refl w.heap.size w);have H:((spec_l07Code.f k a0 a1).bind fun t164=>(if t164=0 then ((spec_l07Fully.f a0 a1).bind fun t165=>(if t165=true then ((spec_l07Roots.f k a0 a1).bind fun t166=>(if (l2.length:Int)=(t166.length:Int) then (spec_CycloAtResidues.l0 k a0 a1 l2 t166 0) else (some (0,([]:List Int),2)))) else (some (0,([]:List Int),2)))) else (some (0,([]:List Int),t164))))=some (r1,r2,r3):=h;clear h;replace H:=qOb H;obtain⟨t164,A40,H⟩:=H;replace H:(if t164=0 then ((spec_l07Fully.f a0 a1).bind fun t165=>(if t165=true then ((spec_l07Roots.f k a0 a1).bind fun t166=>(if (l2.length:Int)=(t166.length:Int) then (spec_CycloAtResidues.l0 k a0 a1 l2 t166 0) else (some (0,([]:List Int),2)))) else (some (0,([]:List Int),2)))) else (some (0,([]:List Int),t164)))=some (r1,r2,r3):=H;have A4:=qAm A40;clear A40
  by_cases c5:t164=0
  · rw [if_pos c5] at H
    have c5b0:(t164==0)=true:=beq_iff_eq.mpr c5;have c5b1:(t164 !=0)=false:=bne_eq_false_iff_eq.mpr c5;clear c5;replace H:=qOb H;obtain⟨t165,A60,H⟩:=H;replace H:(if t165=true then ((spec_l07Roots.f k a0 a1).bind fun t166=>(if (l2.length:Int)=(t166.length:Int) then (spec_CycloAtResidues.l0 k a0 a1 l2 t166 0) else (some (0,([]:List Int),2)))) else (some (0,([]:List Int),2)))=some (r1,r2,r3):=H;have A6:=qAm A60;clear A60
    by_cases c7:t165=true
    · subst c7
      have H1:((spec_l07Roots.f k a0 a1).bind fun t166=>(if (l2.length:Int)=(t166.length:Int) then (spec_CycloAtResidues.l0 k a0 a1 l2 t166 0) else (some (0,([]:List Int),2))))=some (r1,r2,r3):=by rw [if_pos rfl] at H;exact H
      clear H;have H:=H1;clear H1;replace H:=qOb H;obtain⟨t166,A80,H⟩:=H;replace H:(if (l2.length:Int)=(t166.length:Int) then (spec_CycloAtResidues.l0 k a0 a1 l2 t166 0) else (some (0,([]:List Int),2)))=some (r1,r2,r3):=H;have A8:=qAm A80;clear A80
      by_cases c9:(l2.length:Int)=(t166.length:Int)
      · rw [if_pos c9] at H
        have c9b0:((l2.length:Int)==(t166.length:Int))=true:=beq_iff_eq.mpr c9;have c9b1:((l2.length:Int) !=(t166.length:Int))=false:=bne_eq_false_iff_eq.mpr c9;have c9b2:(l2.length==t166.length)=true:=by first|simpa using c9|(simp at c9 ⊢;omega)
        clear c9;have H':=qAm H;clear H;go_enter Try.func29,Try.ntmps29;go_wp2_with (first|((with_reducible refine gate_dst (N:=6) rfl ?_);refine box_event ?hg (N:=6) ?hd (cs:=#[.int .i64 0,.slice none 0 0]) (t:=28) ?hr ?_;(case hd=>rfl);(case hg=>rfl);(case hr=>first|(go_simp;done)|(go_simp;rfl));intro gb163 hg w10 hbox hb;have n0_:=qAm (below_step qB18 hb);have n1_:=qAm (hbox);have n2_:=qAm ((by rw [hg];exact(below_size qB18):w.heap.size≤gb163));have n3_:=qAm ((by rw [hg];exact(below_size qB18):w.heap.size≤gb163));clear HB;have HB:=n0_;have BK163:=n1_;have GW163:=n2_;have GE163:=n3_;clear n0_ n1_ n2_ n3_;clear hb hbox hg)|((with_reducible refine gate_callee (f:=55) rfl ?_);refine goesL_ (some 21) rfl rfl Try.func55 (by kernel_rfl) rfl #[.int .i64 a0,.int .i64 a1] rfl qB17 ?_;(with_reducible refine(spec_l07Code.calls k a0 a1 t164 _ A4.1).mono ?_);rintro e w' ⟨rfl,⟨nd,rfl⟩⟩;refine⟨_,rfl,?_⟩)|((with_reducible refine gate_callee (f:=56) rfl ?_);refine goesL_ (some 28) rfl rfl Try.func56 (by kernel_rfl) rfl #[.int .i64 a0,.int .i64 a1] rfl qB17 ?_;(with_reducible refine(spec_l07Fully.calls a0 a1 true _ A6.1).mono ?_);rintro e w' ⟨rfl,⟨nd,rfl⟩⟩;refine⟨_,rfl,?_⟩)|((with_reducible refine gate_callee (f:=57) rfl ?_);refine goesL_ (some 33) rfl rfl Try.func57 (by kernel_rfl) rfl #[.int .i64 a0,.int .i64 a1] rfl qB17 ?_;(with_reducible refine(spec_l07Roots.calls k a0 a1 t166 _ A8.1).mono ?_);rintro e w11 ⟨v167,rfl,ho0,hb⟩;refine⟨_,rfl,?_⟩;have n0_:=qAm (Kd.R_lower ho0 (below_size qB14));have n1_:=qAm (blk_below (g:=gb163) (o:=.cells #[.int .i64 0,.slice none 0 0] 28 (0,0)) qB22 hb);have n2_:=qAm (below_step qB14 hb);clear BK163;clear HB;have HO168:=n0_;have BK163:=n1_;have HB:=n2_;clear n0_ n1_ n2_;(try clear hb);(try clear hb2);(try clear hk);(try clear hi);(try clear ho0);obtain⟨Ao12,co12,eo12⟩:=Kd.R_slice HO168.1;subst eo12));try simp only [Act.put,qSa,qSc,qSb]
        go_loopg [10] k (fun kq v10 w'=>∃(x10_1:Int) (x164000_1:Int),v10=.int .i64 x10_1∧Aside0 (spec_CycloAtResidues.l0 kq a0 a1 l2 t166 x10_1=some (r1,r2,r3))∧Aside0 (kq≤k)∧Aside0 (Kd.R (Kd.int .i64) 2 w' w.heap.size (fun _=>True) (.slice Ao12 t166.length co12) t166)∧Aside0 (w'.heap[gb163]? =some (.cells #[.int .i64 x164000_1,(.slice none 0 0)] 28 (0,0)))∧Aside0 (Below w.heap.size w w'))
        case atStart=>exact⟨(0),(0),qB52,H',⟨Nat.le_refl _⟩,⟨by (with_reducible repeat(first|apply Kd.R_alloc|apply Kd.R_drewN|apply Kd.R_drew));exact HO168.1⟩,⟨by (with_reducible repeat(first|refine blk_drewN ?_ _|refine blk_drew ?_|refine blk_alloc ?_ _));exact BK163.1⟩,⟨by repeat(first|(with_reducible first|exact HB.1|apply below_alloc|apply pw_below_drewN|apply below_drew1|refine below_set ?_ GE163.1)|exact HB.1)⟩⟩
        case round=>
          clear H';try clear c2
          try clear p2
          try clear c5
          try clear c5b0
          try clear c5b1
          try clear c7
          try clear c9
          try clear c9b0
          try clear c9b1
          try clear c9b2
          obtain⟨x10_1,x164000_1,rfl,HA,HK1,HO_9,BK163,HB⟩:=hrel;cases gk with
          |zero=>exact absurd HA.1 (by simp [spec_CycloAtResidues.l0])
          |succ k1=>
            have H:=HA.1;clear HA;simp only [spec_CycloAtResidues.l0] at H
            by_cases c13:x10_1<(l2.length:Int)
            · rw [if_pos c13] at H
              have c13b0:decide (x10_1<(l2.length:Int))=true:=decide_eq_true c13;clear c13
              by_cases c14:0≤x10_1
              · rw [if_pos c14] at H
                have c14b0:decide (0≤x10_1)=true:=decide_eq_true c14;clear c14;replace H:=qOb H;obtain⟨t170,A150,H⟩:=H;replace H:(if t170=true then (spec_CycloAtResidues.l0 k1 a0 a1 l2 t166 (wrap64 (x10_1+1))) else (some (0,([]:List Int),2)))=some (r1,r2,r3):=H;have A15:=qAm A150;clear A150
                by_cases c16:t170=true
                · subst c16
                  have H1:(spec_CycloAtResidues.l0 k1 a0 a1 l2 t166 (wrap64 (x10_1+1)))=some (r1,r2,r3):=by rw [if_pos rfl] at H;exact H
                  clear H;have H:=H1;clear H1;have H':=qAm H;clear H;have p169:0≤(x10_1:Int):=of_decide_eq_true qB51;have q169:x10_1<(l2.length:Int):=of_decide_eq_true qB51;obtain⟨ad169,e169,hx169_0⟩:=Kd.at_int HR2.1 x10_1 p169 q169;cases e169
                  replace hx169_0:=(HB.1.cell (World.block_lt_of_cell? w _ hx169_0)).trans hx169_0;replace p169:=eq_true p169;replace q169:=eq_true q169;go_wp2_with (first|((with_reducible refine gate_callee (f:=83) rfl ?_);refine goesL_ (some 52) rfl rfl Try.func83 (by kernel_rfl) rfl #[.int .i64 (rd l2 x10_1),.int .i64 0,.int .i64 (wrap64 (a1 - 1))] rfl qB17 ?_;(with_reducible refine(spec_l01In.calls (rd l2 x10_1) 0 (wrap64 (a1 - 1)) true _ A15.1).mono ?_);rintro e w' ⟨rfl,⟨nd,rfl⟩⟩;refine⟨_,rfl,?_⟩))
                  (first|go_roundg k1|((try simp only [add_plain] at *);go_roundg k1))
                  case measure=>have:=HK1.1;omega
                  case rel=>exact⟨(wrap64 (x10_1+1)),(x164000_1),qB52,H',⟨by have:=HK1.1;omega⟩,⟨by (with_reducible repeat(first|apply Kd.R_alloc|apply Kd.R_drewN|apply Kd.R_drew));exact HO_9.1⟩,⟨by (with_reducible repeat(first|refine blk_drewN ?_ _|refine blk_drew ?_|refine blk_alloc ?_ _));exact BK163.1⟩,⟨by repeat(first|(with_reducible first|exact HB.1|apply below_alloc|apply pw_below_drewN|apply below_drew1|refine below_set ?_ GE163.1)|exact HB.1)⟩⟩
                · replace c16:=Bool.eq_false_iff.mpr c16
                  subst c16;have H1:(some (0,([]:List Int),2))=some (r1,r2,r3):=by rw [if_neg (show ¬(false=true) by decide)] at H;exact H
                  clear H;have H:=H1;clear H1;simp only [Option.some.injEq,Prod.mk.injEq] at H;obtain⟨rfl,rfl,rfl⟩:=H;have p169:0≤(x10_1:Int):=of_decide_eq_true qB51;have q169:x10_1<(l2.length:Int):=of_decide_eq_true qB51;obtain⟨ad169,e169,hx169_0⟩:=Kd.at_int HR2.1 x10_1 p169 q169;cases e169
                  replace hx169_0:=(HB.1.cell (World.block_lt_of_cell? w _ hx169_0)).trans hx169_0;replace p169:=eq_true p169;replace q169:=eq_true q169;go_wp2_with (first|((with_reducible refine gate_callee (f:=83) rfl ?_);refine goesL_ (some 52) rfl rfl Try.func83 (by kernel_rfl) rfl #[.int .i64 (rd l2 x10_1),.int .i64 0,.int .i64 (wrap64 (a1 - 1))] rfl qB17 ?_;(with_reducible refine(spec_l01In.calls (rd l2 x10_1) 0 (wrap64 (a1 - 1)) false _ A15.1).mono ?_);rintro e w' ⟨rfl,⟨nd,rfl⟩⟩;refine⟨_,rfl,?_⟩;(try(rw [drewN_self wr];generalize hq_:World.drewN wr _=wr;have n0_:Aside0 (Kd.R (Kd.int .i64) 2 wr w.heap.size (fun _=>True) (.slice Ao12 t166.length co12) t166):=⟨by rw [← hq_];exact qB45⟩;have n1_:Aside0 (wr.heap[gb163]? =some (.cells #[.int .i64 x164000_1,.slice none 0 0] 28 (0,0))):=⟨by rw [← hq_];exact qB22⟩;have n2_:Aside0 (Below w.heap.size w wr):=⟨by rw [← hq_];exact qB14⟩;clear HO_9 BK163 HB hq_;have HO_9:=n0_;have BK163:=n1_;have HB:=n2_;clear n0_ n1_ n2_));have hcz17_0:wr.cell? ⟨gb163,0,none⟩=some (.int .i64 x164000_1):=(blk_cell BK163.1 0).trans rfl;have hcz17_1:wr.cell? ⟨gb163,1,none⟩=some (.slice none 0 0):=(blk_cell BK163.1 1).trans rfl;have hfz17_0:=blk_frozen BK163.1 0;have hfz17_1:=blk_frozen BK163.1 1));refine bodyPost_ret (results_ct rfl _ _ gb163 28 #[.int .i64 0,.slice none 0 0] (0,0) _ rfl (by (with_reducible repeat(first|refine blk_drewN ?_ _|refine blk_drew ?_|refine blk_alloc ?_ _));refine blk_put (cs:=#[.int .i64 0,.slice none 0 0]) ?_ 1 _ rfl;(with_reducible repeat(first|refine blk_drewN ?_ _|refine blk_drew ?_|refine blk_alloc ?_ _));refine blk_put (cs:=#[.int .i64 x164000_1,.slice none 0 0]) ?_ 0 _ rfl;(with_reducible repeat(first|refine blk_drewN ?_ _|refine blk_drew ?_|refine blk_alloc ?_ _));exact BK163.1) Try.underlying28 rfl (by kernel_rfl)) rfl ?_;exact⟨_,by first|rfl|(simp [errW_none,errW_some] <;> rfl)|(simp [*,errW_none,errW_some] <;> rfl),by first|exact Kd.R_nil _ _ _ _ _|exact Kd.N_nil _ _ _ _ _|exact Kd.V_nil _ _ _ _ _|exact Kd.Q_nil _ _ _ _ _|exact Kd.S_nil _ _ _ _ _,by repeat(first|(with_reducible first|exact HB.1|apply below_alloc|apply pw_below_drewN|apply below_drew1|refine below_set ?_ GE163.1)|exact HB.1)⟩
              · rw [if_neg c14] at H
                exact absurd H (by simp)
            · rw [if_neg c13] at H
              have c13b0:decide (x10_1<(l2.length:Int))=false:=decide_eq_false c13;clear c13;replace H:=qOb H;obtain⟨⟨t171,t172⟩,A180,H⟩:=H;replace H:(spec_CycloAtResidues.l1 k1 a1 l2 t166 0 t171 t172)=some (r1,r2,r3):=H;have A18:=qAm A180;clear A180;have H':=qAm H;clear H;go_wp2_with (first|((with_reducible refine gate_callee (f:=70) rfl ?_);refine goesL_ (some 56) rfl rfl Try.func70 (by kernel_rfl) rfl #[.int .i64 a0] rfl qB17 ?_;(with_reducible refine(spec_l01Zero.calls k1 a0 t171 t172 _ A18.1).mono ?_);rintro e w19 ⟨v173,rfl,ho0,hb⟩;refine⟨_,rfl,?_⟩;have n0_:=qAm (Kd.R_elder' qB45 (Kd.R_base ho0) hb);have n1_:=qAm (Kd.R_lower (Kd.R_new' ho0 (Kd.R_lt qB45)) (below_size qB14));have n2_:=qAm (blk_below (g:=gb163) (o:=.cells #[.int .i64 x164000_1,.slice none 0 0] 28 (0,0)) qB22 hb);have n3_:=qAm (below_step qB14 hb);clear HO_9;clear BK163;clear HB;have HO_9:=n0_;have HO174:=n1_;have BK163:=n2_;have HB:=n3_;clear n0_ n1_ n2_ n3_;(try clear hb);(try clear hb2);(try clear hk);(try clear hi);(try clear ho0))|((with_reducible refine gate_dst (N:=11) rfl ?_);refine box_event ?hg (N:=11) ?hd (cs:=#[.int .i64 0,.slice none 0 0]) (t:=28) ?hr ?_;(case hd=>rfl);(case hg=>rfl);(case hr=>first|(go_simp;done)|(go_simp;rfl));intro gb175 hg w20 hbox hb;have n0_:=qAm (Kd.R_below qB45 hb);have n1_:=qAm (Kd.R_below (by (with_reducible repeat(first|apply Kd.R_alloc|apply Kd.R_drewN|apply Kd.R_drew));exact HO174.1) hb);have n2_:=qAm (blk_below (g:=gb163) (o:=.cells #[.int .i64 x164000_1,.slice none 0 0] 28 (0,0)) qB22 hb);have n3_:=qAm (below_step qB14 hb);have n4_:=qAm (hbox);have n5_:=qAm ((by rw [hg];exact(below_size qB14):w.heap.size≤gb175));have n6_:=qAm ((by rw [hg];exact(below_size qB14):w.heap.size≤gb175));have n7_:=qAm ((by rw [hg];exact Nat.ne_of_lt (blk_lt (g:=gb163) (o:=.cells #[.int .i64 x164000_1,.slice none 0 0] 28 (0,0)) qB22):gb163≠gb175));have n8_:=qAm ((by rw [hg];exact Nat.ne_of_gt (blk_lt (g:=gb163) (o:=.cells #[.int .i64 x164000_1,.slice none 0 0] 28 (0,0)) qB22):gb175≠gb163));clear HO_9;clear HO174;clear BK163;clear HB;have HO_9:=n0_;have HO174:=n1_;have BK163:=n2_;have HB:=n3_;have BK175:=n4_;have GW175:=n5_;have GE175:=n6_;have NB163_175:=n7_;have NB175_163:=n8_;clear n0_ n1_ n2_ n3_ n4_ n5_ n6_ n7_ n8_;clear hb hbox hg;have hnb21:=NB175_163.1;have hnc21:=NB163_175.1;have hcz22_0:w20.cell? ⟨gb175,0,none⟩=some (.int .i64 0):=(blk_cell BK175.1 0).trans rfl;have hcz22_1:w20.cell? ⟨gb175,1,none⟩=some (.slice none 0 0):=(blk_cell BK175.1 1).trans rfl;have hfz22_0:=blk_frozen BK175.1 0;have hfz22_1:=blk_frozen BK175.1 1;obtain⟨Ao23,co23,eo23⟩:=Kd.R_slice HO174.1;subst eo23));try simp only [Act.put,qSa,qSc,qSb]
              go_loopg [12] k1 (fun kq v12 w'=>∃(x9_2:List Int) (x12_2:Int) (x176001_2:List Int) (u176001:Value),v12=.int .i64 x12_2∧Aside0 (spec_CycloAtResidues.l1 kq a1 l2 x9_2 x12_2 t171 x176001_2=some (r1,r2,r3))∧Aside0 (kq≤k1)∧Aside0 (Kd.R (Kd.int .i64) 2 w' w.heap.size (fun k_=>some k_≠(u176001:Value).ownBlock) (.slice Ao12 t166.length co12) x9_2)∧Aside0 (Kd.R (Kd.int .i64) 2 w' w.heap.size (fun k_=>some k_≠((.slice Ao12 t166.length co12):Value).ownBlock) u176001 x176001_2)∧Aside0 (w'.heap[gb163]? =some (.cells #[.int .i64 x164000_1,(.slice none 0 0)] 28 (0,0)))∧Aside0 (w'.heap[gb175]? =some (.cells #[.int .i64 t171,u176001] 28 (0,0)))∧Aside0 (Below w.heap.size w w'))
              case atStart=>exact⟨(t166),(0),(t172),(.slice Ao23 t172.length co23),qB52,H',⟨Nat.le_refl _⟩,⟨by (with_reducible repeat(first|apply Kd.R_alloc|apply Kd.R_drewN|apply Kd.R_drew));exact Kd.R_mono (Kd.R_far (p:=⟨gb175,1,none⟩) (Kd.R_far (p:=⟨gb175,0,none⟩) (Kd.R_types HO_9.1 BK175.1 (by decide)) (fun _ hk=>hk.2) (.int .i64 t171)) (fun _ hk=>hk.2) (.slice Ao23 t172.length co23)) (fun _ hk=>hk.1.2)⟩,⟨by (with_reducible repeat(first|apply Kd.R_alloc|apply Kd.R_drewN|apply Kd.R_drew));exact Kd.R_mono (Kd.R_far (p:=⟨gb175,1,none⟩) (Kd.R_far (p:=⟨gb175,0,none⟩) (Kd.R_types HO174.1 BK175.1 (by decide)) (fun _ hk=>hk.2) (.int .i64 t171)) (fun _ hk=>hk.2) (.slice Ao23 t172.length co23)) (fun _ hk=>hk.1.2)⟩,⟨by (with_reducible repeat(first|refine blk_drewN ?_ _|refine blk_drew ?_|refine blk_alloc ?_ _));refine blk_far ?_ NB163_175.1 _;(with_reducible repeat(first|refine blk_drewN ?_ _|refine blk_drew ?_|refine blk_alloc ?_ _));refine blk_far ?_ NB163_175.1 _;(with_reducible repeat(first|refine blk_drewN ?_ _|refine blk_drew ?_|refine blk_alloc ?_ _));exact BK163.1⟩,⟨by (with_reducible repeat(first|refine blk_drewN ?_ _|refine blk_drew ?_|refine blk_alloc ?_ _));refine blk_put (cs:=#[.int .i64 t171,.slice none 0 0]) ?_ 1 _ rfl;(with_reducible repeat(first|refine blk_drewN ?_ _|refine blk_drew ?_|refine blk_alloc ?_ _));refine blk_put (cs:=#[.int .i64 0,.slice none 0 0]) ?_ 0 _ rfl;(with_reducible repeat(first|refine blk_drewN ?_ _|refine blk_drew ?_|refine blk_alloc ?_ _));exact BK175.1⟩,⟨by repeat(first|(with_reducible first|exact HB.1|apply below_alloc|apply pw_below_drewN|apply below_drew1|refine below_set ?_ GE163.1|refine below_set ?_ GE175.1)|exact HB.1)⟩⟩
              case round=>
                clear H';try clear c1
                try clear p1
                try clear q1
                try clear hx1
                try clear c2
                try clear p2
                try clear c5
                try clear c5b0
                try clear c5b1
                try clear p6
                try clear c7
                try clear c8
                try clear c9
                try clear c9b0
                try clear c9b1
                try clear c9b2
                try clear c13
                try clear c13b0
                try clear c14
                try clear c14b0
                try clear c16
                try clear p16
                try clear q16
                try clear hx16
                try clear c21
                try clear hcz17_0
                try clear hcz17_1
                try clear hcz22_0
                try clear hcz22_1
                try clear hfz17_0
                try clear hfz17_1
                try clear hfz22_0
                try clear hfz22_1
                try clear hx169_0
                try clear p169
                try clear p2
                try clear q169
                obtain⟨x9_2,x12_2,x176001_2,u176001,rfl,HA,HK2,HO_9,HO_176001,BK163,BK175,HB⟩:=hrel;have hl9_2:=(Kd.R_reads' HO_9.1).1;rw [hl9_2] at HO_9
                (try simp only [hl9_2])
                (try simp only [hl9_2] at BK163)
                (try simp only [hl9_2] at BK175)
                (try simp only [hl9_2] at HO_176001)
                cases gk with
                |zero=>exact absurd HA.1 (by simp [spec_CycloAtResidues.l1])
                |succ k2=>
                  have H:=HA.1;clear HA;simp only [spec_CycloAtResidues.l1] at H
                  by_cases c24:x12_2<(x9_2.length:Int)
                  · rw [if_pos c24] at H
                    have c24b0:decide (x12_2<(x9_2.length:Int))=true:=decide_eq_true c24;clear c24;obtain⟨y176,hy176⟩:∃y_:List Int,y_=(([1]:List Int)):=⟨_,rfl⟩
                    replace H:(if 0≤x12_2 then (if x12_2<(l2.length:Int) then (spec_CycloAtResidues.l2 k2 a1 l2 x9_2 x12_2 y176 (rd l2 x12_2) 0 t171 x176001_2) else (none)) else (none))=some (r1,r2,r3):=by first|(rw [hy176];with_reducible exact H)|(have H2_:=(Option.bind_some _ _).symm.trans H;rw [hy176];with_reducible exact H2_)|(have H2_:=(Option.bind_some _ _).symm.trans H;with_reducible exact H2_)|with_reducible exact H|(rw [hy176];exact H)|exact H
                    have Ny176:=qAm hy176;clear hy176
                    by_cases c25:0≤x12_2
                    · rw [if_pos c25] at H
                      have c25b0:decide (0≤x12_2)=true:=decide_eq_true c25;clear c25
                      by_cases c26:x12_2<(l2.length:Int)
                      · rw [if_pos c26] at H
                        have c26b0:decide (x12_2<(l2.length:Int))=true:=decide_eq_true c26;clear c26;have H':=qAm H;clear H;try go_wp2
                        have n0_:=qAm (Kd.R_drew HO_9.1);have n1_:=qAm (Kd.R_drew HO_176001.1);have n2_:=qAm (blk_drew BK163.1);have n3_:=qAm (blk_drew BK175.1);have n4_:=qAm (below_drew1 HB.1);clear HO_9 HO_176001 BK163 BK175 HB;have HO_9:=n0_;have HO_176001:=n1_;have BK163:=n2_;have BK175:=n3_;have HB:=n4_;clear n0_ n1_ n2_ n3_ n4_;have p179:0≤(x12_2:Int):=of_decide_eq_true qB51;have q179:x12_2<(l2.length:Int):=of_decide_eq_true qB51;obtain⟨ad179,e179,hx179_0⟩:=Kd.at_int HR2.1 x12_2 p179 q179;have hw179_0:=hx179_0;cases e179
                        replace hx179_0:=(HB.1.cell (World.block_lt_of_cell? w _ hx179_0)).trans hx179_0;replace p179:=eq_true p179;replace q179:=eq_true q179;refine start_ (n:=7) (S:=fun w'=>w'.cell? (ad179.add (x12_2).toNat)=some (.int .i64 (rd l2 x12_2))) (ds:=[]) #[false,false,false,false,false,false,false] (by kernel_rfl) rfl rfl (((HB.1.cell (World.block_lt_of_cell? w _ hw179_0)).trans hw179_0)) (fun hHeld=>?_);generalize wr.drew=w27 at HO_9 HO_176001 BK163 BK175 HB hx179_0 hHeld ⊢;refine pure_ (i:=1) (N:=some 64) (v:=?_) (a':=?_) #[false,true,false,false,false,false,false] rfl rfl (by kernel_rfl) (fun _ _ _ h=>h) (Or.inl ⟨by rfl,?_⟩) ?_ ?_;rotate_left
                        · intro w'
                          go_simp;with_reducible rfl
                        rotate_left
                        · simp only [Act.put,qSa,qSb,qSc,i64_w,i32_w]
                          rfl
                        refine pure_ (i:=2) (N:=some 65) (v:=?_) (a':=?_) #[false,true,true,false,false,false,false] rfl rfl (by kernel_rfl) (fun _ _ _ h=>h) (Or.inl ⟨by rfl,?_⟩) ?_ ?_;rotate_left
                        · intro w'
                          go_simp;with_reducible rfl
                        rotate_left
                        · simp only [Act.put,qSa,qSb,qSc,i64_w,i32_w]
                          rfl
                        refine pure_ (i:=3) (N:=some 66) (v:=?_) (a':=?_) #[false,true,true,true,false,false,false] rfl rfl (by kernel_rfl) (fun _ _ _ h=>h) (Or.inl ⟨by rfl,?_⟩) ?_ ?_;rotate_left
                        · intro w'
                          go_simp;with_reducible rfl
                        rotate_left
                        · simp only [Act.put,qSa,qSb,qSc,i64_w,i32_w]
                          rfl
                        refine take_ (i:=4) (N:=some 67) (v:=?_) (a':=?_) #[false,true,true,true,true,false,false] rfl rfl (by kernel_rfl) (fun _ _ _ h=>h) (Or.inl ⟨by rfl,?_⟩) hHeld ?_ ?_;rotate_left
                        · intro w' s0
                          go_simp;with_reducible rfl
                        rotate_left
                        · simp only [Act.put,qSa,qSb,qSc,i64_w,i32_w]
                          rfl
                        refine one_ (i:=0) (N:=some 63) #[true,true,true,true,true,false,false] rfl rfl (by kernel_rfl) (by decide) (fun K hK=>?_);refine Kd.R_lit_step (Kd.int .i64) _ 2 ?hg (N:=63) ?hd (xs:=([1]:List Int)) (inner:=[.int .i64 1]) (ok:=fun _=>True) (okp:=fun _=>True) ?hr ?hp (fun _ hk=>hk) trivial (Below.refl _ _) (Nat.le_refl _) (by simp) ?_;(case hd=>rfl);(case hg=>rfl);(case hr=>first|(go_simp;done)|(go_simp;rfl));(case hp=>exact(Reps.one (show Kd.M (Kd.int .i64) _ _ _ 1 [.int .i64 1] from rfl) (Reps.none _ _)));intro v177 w28 ho29 hb hg_ hnew_;clear hg_ hnew_
                        (first|rw [← Ny176.1] at ho29|(simp only [Int.reduceToNat] at ho29;rw [← Ny176.1] at ho29))
                        have n0_:=qAm (Kd.R_elder' qB45 (Kd.R_base ho29) hb);have n1_:=qAm (Kd.R_elder' qB28 (Kd.R_base ho29) hb);have n2_:=qAm (Kd.R_lower (Kd.R_new' (Kd.R_new' ho29 (Kd.R_lt qB45)) (Kd.R_lt qB28)) (below_size qB9));have n3_:=qAm (blk_below (g:=gb163) (o:=.cells #[.int .i64 x164000_1,.slice none 0 0] 28 (0,0)) qB22 hb);have n4_:=qAm (blk_below (g:=gb175) (o:=.cells #[.int .i64 t171,u176001] 28 (0,0)) qB23 hb);have n5_:=qAm (below_step qB9 hb);clear HO_9 HO_176001 BK163 BK175 HB;have HO_9:=n0_;have HO_176001:=n1_;have HO178:=n2_;have BK163:=n3_;have BK175:=n4_;have HB:=n5_;clear n0_ n1_ n2_ n3_ n4_ n5_ hb ho29;refine hK.out _ _ (((HB.1.cell (World.block_lt_of_cell? w _ hw179_0)).trans hw179_0)) (fun hHeld=>?_);clear hK K;refine norm_ (a':=?_) ?_ ?_;rotate_left
                        · show Act.put _ (some 63) _=_
                          simp only [Act.put,qSa,qSb,qSc,i64_w,i32_w];rfl
                        refine pure_ (i:=5) (N:=some 13) (v:=?_) (a':=?_) #[true,true,true,true,true,true,false] rfl rfl (by kernel_rfl) (fun _ _ _ h=>h) (Or.inl ⟨by rfl,?_⟩) ?_ ?_;rotate_left
                        · intro w'
                          go_simp;with_reducible rfl
                        rotate_left
                        · simp only [Act.put,qSa,qSb,qSc,i64_w,i32_w]
                          rfl
                        refine pure_ (i:=6) (N:=some 14) (v:=?_) (a':=?_) #[true,true,true,true,true,true,true] rfl rfl (by kernel_rfl) (fun _ _ _ h=>h) (Or.inl ⟨by rfl,?_⟩) ?_ ?_;rotate_left
                        · intro w'
                          go_simp;with_reducible rfl
                        rotate_left
                        · simp only [Act.put,qSa,qSb,qSc,i64_w,i32_w]
                          rfl
                        refine done_ (by kernel_rfl) ?_;try go_wp2
                        try simp only [Act.put,qSa,qSc,qSb]
                        go_loopg [13,14,15] k2 (fun kq v13 v14 v15 w'=>∃(x9_3:List Int) (x13_3:List Int) (x14_3:Int) (x15_3:Int) (x176001_3:List Int) (u176001:Value),v14=.int .i64 x14_3∧v15=.int .i64 x15_3∧Aside0 (spec_CycloAtResidues.l2 kq a1 l2 x9_3 x12_2 x13_3 x14_3 x15_3 t171 x176001_3=some (r1,r2,r3))∧Aside0 (kq≤k2)∧Aside0 (Kd.R (Kd.int .i64) 2 w' w.heap.size (fun k_=>some k_≠(v13:Value).ownBlock∧some k_≠(u176001:Value).ownBlock) (.slice Ao12 x9_2.length co12) x9_3)∧Aside0 (Kd.R (Kd.int .i64) 2 w' w.heap.size (fun k_=>some k_≠((.slice Ao12 x9_2.length co12):Value).ownBlock∧some k_≠(u176001:Value).ownBlock) v13 x13_3)∧Aside0 (Kd.R (Kd.int .i64) 2 w' w.heap.size (fun k_=>some k_≠((.slice Ao12 x9_2.length co12):Value).ownBlock∧some k_≠(v13:Value).ownBlock) u176001 x176001_3)∧Aside0 (w'.heap[gb163]? =some (.cells #[.int .i64 x164000_1,(.slice none 0 0)] 28 (0,0)))∧Aside0 (w'.heap[gb175]? =some (.cells #[.int .i64 t171,u176001] 28 (0,0)))∧Aside0 (Below w.heap.size w w'))
                        case atStart=>exact⟨(x9_2),(y176),(rd l2 x12_2),(0),(x176001_2),(u176001),qB52,qB52,H',⟨Nat.le_refl _⟩,⟨by (try simp only [hl9_2]);(with_reducible repeat(first|apply Kd.R_alloc|apply Kd.R_drewN|apply Kd.R_drew));exact Kd.R_mono HO_9.1 (fun _ hk=>⟨hk.2,hk.1⟩)⟩,⟨by (try simp only [hl9_2]);(with_reducible repeat(first|apply Kd.R_alloc|apply Kd.R_drewN|apply Kd.R_drew));exact Kd.R_mono HO178.1 (fun _ hk=>⟨hk.1.2,hk.2⟩)⟩,⟨by (try simp only [hl9_2]);(with_reducible repeat(first|apply Kd.R_alloc|apply Kd.R_drewN|apply Kd.R_drew));exact HO_176001.1⟩,⟨by (try simp only [hl9_2]);(with_reducible repeat(first|refine blk_drewN ?_ _|refine blk_drew ?_|refine blk_alloc ?_ _));exact BK163.1⟩,⟨by (try simp only [hl9_2]);(with_reducible repeat(first|refine blk_drewN ?_ _|refine blk_drew ?_|refine blk_alloc ?_ _));exact BK175.1⟩,⟨by repeat(first|(with_reducible first|exact HB.1|apply below_alloc|apply pw_below_drewN|apply below_drew1|refine below_set ?_ GE163.1|refine below_set ?_ GE175.1)|exact HB.1)⟩⟩
                        case round=>
                          clear H';try clear c1
                          try clear p1
                          try clear q1
                          try clear hx1
                          try clear c2
                          try clear p2
                          try clear c5
                          try clear c5b0
                          try clear c5b1
                          try clear p6
                          try clear c7
                          try clear c8
                          try clear c9
                          try clear c9b0
                          try clear c9b1
                          try clear c9b2
                          try clear c13
                          try clear c13b0
                          try clear c14
                          try clear c14b0
                          try clear c16
                          try clear p16
                          try clear q16
                          try clear hx16
                          try clear p17
                          try clear q17
                          try clear hx17
                          try clear c21
                          try clear c24
                          try clear c24b0
                          try clear c25
                          try clear c25b0
                          try clear c26
                          try clear c26b0
                          try clear c29
                          try clear hcz17_0
                          try clear hcz17_1
                          try clear hcz22_0
                          try clear hcz22_1
                          try clear hfz17_0
                          try clear hfz17_1
                          try clear hfz22_0
                          try clear hfz22_1
                          try clear hx169_0
                          try clear hx179_0
                          try clear p1
                          try clear p16
                          try clear p169
                          try clear p179
                          try clear p2
                          try clear p6
                          try clear q1
                          try clear q16
                          try clear q169
                          try clear q179
                          obtain⟨x9_3,x13_3,x14_3,x15_3,x176001_3,u176001,rfl,rfl,HA,HK3,HO_9,HO_13,HO_176001,BK163,BK175,HB⟩:=hrel;have hl9_3:=(Kd.R_reads' HO_9.1).1;rw [hl9_3] at HO_9
                          (try simp only [hl9_3])
                          (try simp only [hl9_3] at BK163)
                          (try simp only [hl9_3] at BK175)
                          (try simp only [hl9_3] at HO_13)
                          (try simp only [hl9_3] at HO_176001)
                          cases gk with
                          |zero=>exact absurd HA.1 (by simp [spec_CycloAtResidues.l2])
                          |succ k3=>
                            have H:=HA.1;clear HA;simp only [spec_CycloAtResidues.l2] at H
                            by_cases c30:x15_3<(x9_3.length:Int)
                            · rw [if_pos c30] at H
                              have c30b0:decide (x15_3<(x9_3.length:Int))=true:=decide_eq_true c30;clear c30
                              by_cases c31:x15_3=x12_2
                              · rw [if_pos c31] at H
                                have c31b0:(x15_3==x12_2)=true:=beq_iff_eq.mpr c31;have c31b1:(x15_3 !=x12_2)=false:=bne_eq_false_iff_eq.mpr c31;clear c31;have H':=qAm H;clear H;go_wp2
                                (try simp only [← hl9_3])
                                (first|go_roundg k3|((try simp only [add_plain] at *);go_roundg k3))
                                case measure=>have:=HK1.1;have:=HK2.1;have:=HK3.1;omega
                                case rel=>exact⟨(x9_3),(x13_3),(x14_3),(wrap64 (x15_3+1)),(x176001_3),(u176001),qB52,qB52,H',⟨by have:=HK1.1;have:=HK2.1;have:=HK3.1;omega⟩,⟨by (try simp only [hl9_2]);(try simp only [hl9_3]);(with_reducible repeat(first|apply Kd.R_alloc|apply Kd.R_drewN|apply Kd.R_drew));exact HO_9.1⟩,⟨by (try simp only [hl9_2]);(try simp only [hl9_3]);(with_reducible repeat(first|apply Kd.R_alloc|apply Kd.R_drewN|apply Kd.R_drew));exact HO_13.1⟩,⟨by (try simp only [hl9_2]);(try simp only [hl9_3]);(with_reducible repeat(first|apply Kd.R_alloc|apply Kd.R_drewN|apply Kd.R_drew));exact HO_176001.1⟩,⟨by (try simp only [hl9_2]);(try simp only [hl9_3]);(with_reducible repeat(first|refine blk_drewN ?_ _|refine blk_drew ?_|refine blk_alloc ?_ _));exact BK163.1⟩,⟨by (try simp only [hl9_2]);(try simp only [hl9_3]);(with_reducible repeat(first|refine blk_drewN ?_ _|refine blk_drew ?_|refine blk_alloc ?_ _));exact BK175.1⟩,⟨by repeat(first|(with_reducible first|exact HB.1|apply below_alloc|apply pw_below_drewN|apply below_drew1|refine below_set ?_ GE163.1|refine below_set ?_ GE175.1)|exact HB.1)⟩⟩
                              · rw [if_neg c31] at H
                                have c31b0:(x15_3==x12_2)=false:=beq_eq_false_iff_ne.mpr c31;have c31b1:(x15_3 !=x12_2)=true:=bne_iff_ne.mpr c31
                                by_cases c32:0≤x12_2
                                · rw [if_pos c32] at H
                                  have c32b0:decide (0≤x12_2)=true:=decide_eq_true c32;clear c32
                                  by_cases c33:x12_2<(x9_3.length:Int)
                                  · rw [if_pos c33] at H
                                    have c33b0:decide (x12_2<(x9_3.length:Int))=true:=decide_eq_true c33;clear c33
                                    by_cases c34:0≤x15_3
                                    · rw [if_pos c34] at H
                                      have c34b0:decide (0≤x15_3)=true:=decide_eq_true c34;clear c34;replace H:=qOb H;obtain⟨t182,A350,H⟩:=H;replace H:(if a1=0 then (none) else (if 0≤(wrap64 ((x13_3.length:Int)+1)) then (if (wrap64 ((x13_3.length:Int)+1):Int).toNat≤35184372088832 then (spec_CycloAtResidues.l3 k3 a1 l2 x9_3 x12_2 x13_3 (Int.tmod (wrap64 (x14_3*t182)) a1) x15_3 (List.replicate (wrap64 ((x13_3.length:Int)+1):Int).toNat 0) 0 t171 x176001_3) else (none)) else (none)))=some (r1,r2,r3):=H;have A35:=qAm A350;clear A350
                                      by_cases c36:a1=0
                                      · rw [if_pos c36] at H
                                        exact absurd H (by simp)
                                      · rw [if_neg c36] at H
                                        have c36b0:(a1==0)=false:=beq_eq_false_iff_ne.mpr c36;have c36b1:(a1 !=0)=true:=bne_iff_ne.mpr c36;obtain⟨ji37,hji37⟩:∃j_:Int,(wrap64 ((x13_3.length:Int)+1))=j_:=⟨_,rfl⟩
                                        replace H:(if 0≤(ji37) then (if (ji37:Int).toNat≤35184372088832 then (spec_CycloAtResidues.l3 k3 a1 l2 x9_3 x12_2 x13_3 (Int.tmod (wrap64 (x14_3*t182)) a1) x15_3 (List.replicate (ji37:Int).toNat 0) 0 t171 x176001_3) else (none)) else (none))=some (r1,r2,r3):=by first|(rw [hji37] at H;exact H)|(simp only [hji37] at H ⊢;exact H)
                                        (try rw [hji37] at A35)
                                        have hji37w:(IntKind.i64.wrap ((x13_3.length:Int)+1))=ji37:=(i64_w _).trans hji37
                                        by_cases c38:0≤(ji37)
                                        · rw [if_pos c38] at H
                                          have c38b0:=eq_true c38;have c38b1:decide (0≤(ji37))=true:=decide_eq_true c38;clear c38
                                          by_cases c39:(ji37:Int).toNat≤35184372088832
                                          · rw [if_pos c39] at H
                                            have c39b0:=eq_true c39;have c39b1:decide ((ji37:Int).toNat≤35184372088832)=true:=decide_eq_true c39;clear c39;obtain⟨y183,hy183⟩:∃y_:List Int,y_=(List.replicate (ji37:Int).toNat 0):=⟨_,rfl⟩
                                            replace H:(spec_CycloAtResidues.l3 k3 a1 l2 x9_3 x12_2 x13_3 (Int.tmod (wrap64 (x14_3*t182)) a1) x15_3 y183 0 t171 x176001_3)=some (r1,r2,r3):=by first|(rw [hy183];with_reducible exact H)|(have H2_:=(Option.bind_some _ _).symm.trans H;rw [hy183];with_reducible exact H2_)|(have H2_:=(Option.bind_some _ _).symm.trans H;with_reducible exact H2_)|with_reducible exact H|(rw [hy183];exact H)|exact H
                                            have Ny183:=qAm hy183;clear hy183;have H':=qAm H;clear H;try go_wp2
                                            have n0_:=qAm (Kd.R_drew HO_9.1);have n1_:=qAm (Kd.R_drew HO_13.1);have n2_:=qAm (Kd.R_drew HO_176001.1);have n3_:=qAm (blk_drew BK163.1);have n4_:=qAm (blk_drew BK175.1);have n5_:=qAm (below_drew1 HB.1);clear HO_9 HO_13 HO_176001 BK163 BK175 HB;have HO_9:=n0_;have HO_13:=n1_;have HO_176001:=n2_;have BK163:=n3_;have BK175:=n4_;have HB:=n5_;clear n0_ n1_ n2_ n3_ n4_ n5_;have p180:0≤(x12_2:Int):=of_decide_eq_true qB51;have q180:x12_2<(x9_3.length:Int):=of_decide_eq_true qB51;obtain⟨ad180,e180,hx180_0⟩:=Kd.at_int (Kd.R_reads' HO_9.1).2.2 x12_2 p180 q180;cases e180
                                            replace p180:=eq_true p180;replace q180:=eq_true q180;have p181:0≤(x15_3:Int):=of_decide_eq_true qB51;have q181:x15_3<(x9_3.length:Int):=of_decide_eq_true qB51;obtain⟨ad181,e181,hx181_0⟩:=Kd.at_int (Kd.R_reads' HO_9.1).2.2 x15_3 p181 q181;obtain rfl:ad180=ad181:=(by injection e181)
                                            replace p181:=eq_true p181;replace q181:=eq_true q181;refine start_ (n:=16) (S:=fun w'=>w'.cell? (ad180.add (x12_2).toNat)=some (.int .i64 (rd x9_3 x12_2))∧w'.cell? (ad180.add (x15_3).toNat)=some (.int .i64 (rd x9_3 x15_3))) (ds:=[]) #[false,false,false,false,false,false,false,false,false,false,false,false,false,false,false,false] (by kernel_rfl) rfl rfl ⟨hx180_0,hx181_0⟩ (fun hHeld=>?_);refine with_tabW spec_CycloAtResidues.tab23 spec_CycloAtResidues.bits23 (fun HT_ HW_=>?_);generalize wr.drew=w40 at HO_9 HO_13 HO_176001 BK163 BK175 HB hx180_0 hx181_0 hHeld ⊢;refine pure_ (i:=0) (N:=some 77) (v:=?_) (a':=?_) #[true,false,false,false,false,false,false,false,false,false,false,false,false,false,false,false] rfl rfl (any_of HT_.1 (by kernel_rfl)) (fun _ _ _ h=>h) (Or.inl ⟨by rfl,?_⟩) ?_ ?_;rotate_left
                                            · intro w'
                                              go_simp;with_reducible rfl
                                            rotate_left
                                            · simp only [Act.put,qSa,qSb,qSc,i64_w,i32_w]
                                              rfl
                                            refine pure_ (i:=1) (N:=some 78) (v:=?_) (a':=?_) #[true,true,false,false,false,false,false,false,false,false,false,false,false,false,false,false] rfl rfl (any_of HT_.1 (by kernel_rfl)) (fun _ _ _ h=>h) (Or.inl ⟨by rfl,?_⟩) ?_ ?_;rotate_left
                                            · intro w'
                                              go_simp;with_reducible rfl
                                            rotate_left
                                            · simp only [Act.put,qSa,qSb,qSc,i64_w,i32_w]
                                              rfl
                                            refine pure_ (i:=2) (N:=some 79) (v:=?_) (a':=?_) #[true,true,true,false,false,false,false,false,false,false,false,false,false,false,false,false] rfl rfl (any_of HT_.1 (by kernel_rfl)) (fun _ _ _ h=>h) (Or.inl ⟨by rfl,?_⟩) ?_ ?_;rotate_left
                                            · intro w'
                                              go_simp;with_reducible rfl
                                            rotate_left
                                            · simp only [Act.put,qSa,qSb,qSc,i64_w,i32_w]
                                              rfl
                                            refine pure_ (i:=3) (N:=some 80) (v:=?_) (a':=?_) #[true,true,true,true,false,false,false,false,false,false,false,false,false,false,false,false] rfl rfl (any_of HT_.1 (by kernel_rfl)) (fun _ _ _ h=>h) (Or.inl ⟨by rfl,?_⟩) ?_ ?_;rotate_left
                                            · intro w'
                                              go_simp;with_reducible rfl
                                            rotate_left
                                            · simp only [Act.put,qSa,qSb,qSc,i64_w,i32_w]
                                              rfl
                                            refine pure_ (i:=4) (N:=some 81) (v:=?_) (a':=?_) #[true,true,true,true,true,false,false,false,false,false,false,false,false,false,false,false] rfl rfl (any_of HT_.1 (by kernel_rfl)) (fun _ _ _ h=>h) (Or.inl ⟨by rfl,?_⟩) ?_ ?_;rotate_left
                                            · intro w'
                                              go_simp;with_reducible rfl
                                            rotate_left
                                            · simp only [Act.put,qSa,qSb,qSc,i64_w,i32_w]
                                              rfl
                                            refine pure_ (i:=6) (N:=some 83) (v:=?_) (a':=?_) #[true,true,true,true,true,false,true,false,false,false,false,false,false,false,false,false] rfl rfl (any_of HT_.1 (by kernel_rfl)) (fun _ _ _ h=>h) (Or.inl ⟨by rfl,?_⟩) ?_ ?_;rotate_left
                                            · intro w'
                                              go_simp;with_reducible rfl
                                            rotate_left
                                            · simp only [Act.put,qSa,qSb,qSc,i64_w,i32_w]
                                              rfl
                                            refine pure_ (i:=7) (N:=some 84) (v:=?_) (a':=?_) #[true,true,true,true,true,false,true,true,false,false,false,false,false,false,false,false] rfl rfl (any_of HT_.1 (by kernel_rfl)) (fun _ _ _ h=>h) (Or.inl ⟨by rfl,?_⟩) ?_ ?_;rotate_left
                                            · intro w'
                                              go_simp;with_reducible rfl
                                            rotate_left
                                            · simp only [Act.put,qSa,qSb,qSc,i64_w,i32_w]
                                              rfl
                                            refine pure_ (i:=8) (N:=some 85) (v:=?_) (a':=?_) #[true,true,true,true,true,false,true,true,true,false,false,false,false,false,false,false] rfl rfl (any_of HT_.1 (by kernel_rfl)) (fun _ _ _ h=>h) (Or.inl ⟨by rfl,?_⟩) ?_ ?_;rotate_left
                                            · intro w'
                                              go_simp;with_reducible rfl
                                            rotate_left
                                            · simp only [Act.put,qSa,qSb,qSc,i64_w,i32_w]
                                              rfl
                                            refine pure_ (i:=13) (N:=some 90) (v:=?_) (a':=?_) #[true,true,true,true,true,false,true,true,true,false,false,false,false,true,false,false] rfl rfl (any_of HT_.1 (by kernel_rfl)) (fun _ _ _ h=>h) (Or.inl ⟨by rfl,?_⟩) ?_ ?_;rotate_left
                                            · intro w'
                                              go_simp;with_reducible rfl
                                            rotate_left
                                            · simp only [Act.put,qSa,qSb,qSc,i64_w,i32_w]
                                              rfl
                                            refine take_ (i:=5) (N:=some 82) (v:=?_) (a':=?_) #[true,true,true,true,true,true,true,true,true,false,false,false,false,true,false,false] rfl rfl (take_ofW HT_.1 HW_.1 (by kernel_rfl)) (fun _ _ _ h=>h) (Or.inl ⟨by rfl,?_⟩) hHeld ?_ ?_;rotate_left
                                            · rintro w' ⟨s0,s1⟩
                                              go_simp;with_reducible rfl
                                            rotate_left
                                            · simp only [Act.put,qSa,qSb,qSc,i64_w,i32_w]
                                              rfl
                                            refine take_ (i:=9) (N:=some 86) (v:=?_) (a':=?_) #[true,true,true,true,true,true,true,true,true,true,false,false,false,true,false,false] rfl rfl (take_ofW HT_.1 HW_.1 (by kernel_rfl)) (fun _ _ _ h=>h) (Or.inl ⟨by rfl,?_⟩) hHeld ?_ ?_;rotate_left
                                            · rintro w' ⟨s0,s1⟩
                                              go_simp;with_reducible rfl
                                            rotate_left
                                            · simp only [Act.put,qSa,qSb,qSc,i64_w,i32_w]
                                              rfl
                                            refine pure_ (i:=10) (N:=some 87) (v:=?_) (a':=?_) #[true,true,true,true,true,true,true,true,true,true,true,false,false,true,false,false] rfl rfl (any_of HT_.1 (by kernel_rfl)) (fun _ _ _ h=>h) (Or.inl ⟨by rfl,?_⟩) ?_ ?_;rotate_left
                                            · intro w'
                                              go_simp;with_reducible rfl
                                            rotate_left
                                            · simp only [Act.put,qSa,qSb,qSc,i64_w,i32_w]
                                              rfl
                                            refine one_ (i:=11) (N:=some 88) #[true,true,true,true,true,true,true,true,true,true,true,true,false,true,false,false] rfl rfl (one_of HT_.1 (by kernel_rfl)) (by decide) (fun K hK=>?_);refine goes_ Try.func84 (by kernel_rfl) rfl #[.int .i64 a1,.int .i64 (wrap64 ((rd x9_3 x12_2) - (rd x9_3 x15_3)))] (by rfl) rfl rfl qB17 ?_;with_reducible refine(spec_l07Inverse.calls k3 a1 (wrap64 ((rd x9_3 x12_2) - (rd x9_3 x15_3))) t182 _ A35.1).mono ?_
                                            rintro e w' ⟨rfl,⟨nd,rfl⟩⟩;refine⟨_,rfl,?_⟩;refine hK.out _ _ ⟨hHeld.1,hHeld.2⟩ (fun hHeld=>?_);clear hK K;refine norm_ (a':=?_) ?_ ?_;rotate_left
                                            · show Act.put _ (some 88) _=_
                                              simp only [Act.put,qSa,qSb,qSc,i64_w,i32_w];rfl
                                            refine pure_ (i:=12) (N:=some 89) (v:=?_) (a':=?_) #[true,true,true,true,true,true,true,true,true,true,true,true,true,true,false,false] rfl rfl (any_of HT_.1 (by kernel_rfl)) (fun _ _ _ h=>h) (Or.inl ⟨by rfl,?_⟩) ?_ ?_;rotate_left
                                            · intro w'
                                              go_simp;with_reducible rfl
                                            rotate_left
                                            · simp only [Act.put,qSa,qSb,qSc,i64_w,i32_w]
                                              rfl
                                            refine pure_ (i:=14) (N:=some 91) (v:=?_) (a':=?_) #[true,true,true,true,true,true,true,true,true,true,true,true,true,true,true,false] rfl rfl (any_of HT_.1 (by kernel_rfl)) (fun _ _ _ h=>h) (Or.inl ⟨by rfl,?_⟩) ?_ ?_;rotate_left
                                            · intro w'
                                              go_simp;with_reducible rfl
                                            rotate_left
                                            · simp only [Act.put,qSa,qSb,qSc,i64_w,i32_w]
                                              rfl
                                            refine pure_ (i:=15) (N:=some 14) (v:=?_) (a':=?_) #[true,true,true,true,true,true,true,true,true,true,true,true,true,true,true,true] rfl rfl (any_of HT_.1 (by kernel_rfl)) (fun _ _ _ h=>h) (Or.inl ⟨by rfl,?_⟩) ?_ ?_;rotate_left
                                            · intro w'
                                              go_simp;with_reducible rfl
                                            rotate_left
                                            · simp only [Act.put,qSa,qSb,qSc,i64_w,i32_w]
                                              rfl
                                            refine done_ (done_of HT_.1 (by kernel_rfl)) ?_;obtain⟨Ao41,co41,eo41⟩:=Kd.R_slice HO_13.1;subst eo41;try go_wp2_with (first|((with_reducible refine gate_dst (N:=95) rfl ?_);refine Kd.R_make (Kd.int .i64) _ 2 rfl (N:=95) rfl 22 _ _ rfl ji37 rfl rfl Try.underlying22 (.int .i64 0) 8 info2 rfl (by decide) (by omega) 0 (ok:=fun _=>True) (okp:=fun _=>True) rfl (fun _ hk=>hk) trivial (of_decide_eq_true qB51) (Nat.le_trans (Nat.mul_le_mul_right _ (of_decide_eq_true qB51:ji37.toNat≤35184372088832)) (by omega)) (Below.refl _ _) (Nat.le_refl _) ?_;intro v184 w42 ho43 hb hg_ hnew_;clear hg_ hnew_;(first|rw [← Ny183.1] at ho43|(simp only [Int.reduceToNat] at ho43;rw [← Ny183.1] at ho43));have n0_:=qAm (Kd.R_elder' qB45 (Kd.R_base ho43) hb);have n1_:=qAm (Kd.R_elder' qB34 (Kd.R_base ho43) hb);have n2_:=qAm (Kd.R_elder' qB28 (Kd.R_base ho43) hb);have n3_:=qAm (Kd.R_lower (Kd.R_new' (Kd.R_new' (Kd.R_new' ho43 (Kd.R_lt qB45)) (Kd.R_lt qB34)) (Kd.R_lt qB28)) (below_size qB9));have n4_:=qAm (blk_below (g:=gb163) (o:=.cells #[.int .i64 x164000_1,.slice none 0 0] 28 (0,0)) qB22 hb);have n5_:=qAm (blk_below (g:=gb175) (o:=.cells #[.int .i64 t171,u176001] 28 (0,0)) qB23 hb);have n6_:=qAm (below_step qB9 hb);clear HO_9;clear HO_13;clear HO_176001;clear BK163;clear BK175;clear HB;have HO_9:=n0_;have HO_13:=n1_;have HO_176001:=n2_;have HO185:=n3_;have BK163:=n4_;have BK175:=n5_;have HB:=n6_;clear n0_ n1_ n2_ n3_ n4_ n5_ n6_;clear hb ho43))
                                            try simp only [Act.put,qSa,qSc,qSb]
                                            go_loopg [17] k3 (fun kq v17 w'=>∃(x16_4:List Int) (x17_4:Int),v17=.int .i64 x17_4∧Aside0 (spec_CycloAtResidues.l3 kq a1 l2 x9_3 x12_2 x13_3 (Int.tmod (wrap64 (x14_3*t182)) a1) x15_3 x16_4 x17_4 t171 x176001_3=some (r1,r2,r3))∧Aside0 (kq≤k3)∧Aside0 (Kd.R (Kd.int .i64) 2 w' w.heap.size (fun k_=>some k_≠((.slice Ao41 x13_3.length co41):Value).ownBlock∧some k_≠(v184:Value).ownBlock∧some k_≠(u176001:Value).ownBlock) (.slice (some ad180) x9_3.length co12) x9_3)∧Aside0 (Kd.R (Kd.int .i64) 2 w' w.heap.size (fun k_=>some k_≠((.slice (some ad180) x9_3.length co12):Value).ownBlock∧some k_≠(v184:Value).ownBlock∧some k_≠(u176001:Value).ownBlock) (.slice Ao41 x13_3.length co41) x13_3)∧Aside0 (Kd.R (Kd.int .i64) 2 w' w.heap.size (fun k_=>some k_≠((.slice (some ad180) x9_3.length co12):Value).ownBlock∧some k_≠((.slice Ao41 x13_3.length co41):Value).ownBlock∧some k_≠(u176001:Value).ownBlock) v184 x16_4)∧Aside0 (Kd.R (Kd.int .i64) 2 w' w.heap.size (fun k_=>some k_≠((.slice (some ad180) x9_3.length co12):Value).ownBlock∧some k_≠((.slice Ao41 x13_3.length co41):Value).ownBlock∧some k_≠(v184:Value).ownBlock) u176001 x176001_3)∧Aside0 (w'.heap[gb163]? =some (.cells #[.int .i64 x164000_1,(.slice none 0 0)] 28 (0,0)))∧Aside0 (w'.heap[gb175]? =some (.cells #[.int .i64 t171,u176001] 28 (0,0)))∧Aside0 (Below w.heap.size w w'))
                                            case atStart=>exact⟨(y183),(0),qB52,H',⟨Nat.le_refl _⟩,⟨by (try simp only [hl9_2]);(try simp only [hl9_3]);(with_reducible repeat(first|apply Kd.R_alloc|apply Kd.R_drewN|apply Kd.R_drew));exact Kd.R_mono HO_9.1 (fun _ hk=>⟨hk.1.1,⟨hk.2,hk.1.2⟩⟩)⟩,⟨by (try simp only [hl9_2]);(try simp only [hl9_3]);(with_reducible repeat(first|apply Kd.R_alloc|apply Kd.R_drewN|apply Kd.R_drew));exact Kd.R_mono HO_13.1 (fun _ hk=>⟨hk.1.1,⟨hk.2,hk.1.2⟩⟩)⟩,⟨by (try simp only [hl9_2]);(try simp only [hl9_3]);(with_reducible repeat(first|apply Kd.R_alloc|apply Kd.R_drewN|apply Kd.R_drew));exact Kd.R_mono HO185.1 (fun _ hk=>⟨hk.1.1.2,⟨hk.1.2,hk.2⟩⟩)⟩,⟨by (try simp only [hl9_2]);(try simp only [hl9_3]);(with_reducible repeat(first|apply Kd.R_alloc|apply Kd.R_drewN|apply Kd.R_drew));exact Kd.R_mono HO_176001.1 (fun _ hk=>⟨hk.1.1,⟨hk.1.2,hk.2⟩⟩)⟩,⟨by (try simp only [hl9_2]);(try simp only [hl9_3]);(with_reducible repeat(first|refine blk_drewN ?_ _|refine blk_drew ?_|refine blk_alloc ?_ _));exact BK163.1⟩,⟨by (try simp only [hl9_2]);(try simp only [hl9_3]);(with_reducible repeat(first|refine blk_drewN ?_ _|refine blk_drew ?_|refine blk_alloc ?_ _));exact BK175.1⟩,⟨by repeat(first|(with_reducible first|exact HB.1|apply below_alloc|apply pw_below_drewN|apply below_drew1|refine below_set ?_ GE163.1|refine below_set ?_ GE175.1)|exact HB.1)⟩⟩
                                            case round=>
                                              clear H';try clear c1
                                              try clear p1
                                              try clear q1
                                              try clear hx1
                                              try clear c2
                                              try clear p2
                                              try clear c3
                                              try clear c5
                                              try clear c5b0
                                              try clear c5b1
                                              try clear p6
                                              try clear c7
                                              try clear c8
                                              try clear c9
                                              try clear c9b0
                                              try clear c9b1
                                              try clear c9b2
                                              try clear c13
                                              try clear c13b0
                                              try clear c14
                                              try clear c14b0
                                              try clear c16
                                              try clear p16
                                              try clear q16
                                              try clear hx16
                                              try clear p17
                                              try clear q17
                                              try clear hx17
                                              try clear p18
                                              try clear q18
                                              try clear hx18
                                              try clear c21
                                              try clear c24
                                              try clear c24b0
                                              try clear c25
                                              try clear c25b0
                                              try clear c26
                                              try clear c26b0
                                              try clear c29
                                              try clear c30
                                              try clear c30b0
                                              try clear c31
                                              try clear c31b0
                                              try clear c31b1
                                              try clear c32
                                              try clear c32b0
                                              try clear c33
                                              try clear c33b0
                                              try clear c34
                                              try clear c34b0
                                              try clear c36
                                              try clear c36b0
                                              try clear c36b1
                                              try clear c38
                                              try clear c38b0
                                              try clear c38b1
                                              try clear c39
                                              try clear c39b0
                                              try clear c39b1
                                              try clear hcz17_0
                                              try clear hcz17_1
                                              try clear hcz22_0
                                              try clear hcz22_1
                                              try clear hfz17_0
                                              try clear hfz17_1
                                              try clear hfz22_0
                                              try clear hfz22_1
                                              try clear hx169_0
                                              try clear hx179_0
                                              try clear hx180_0
                                              try clear hx181_0
                                              try clear p1
                                              try clear p16
                                              try clear p169
                                              try clear p17
                                              try clear p179
                                              try clear p180
                                              try clear p181
                                              try clear p2
                                              try clear p6
                                              try clear q1
                                              try clear q16
                                              try clear q169
                                              try clear q17
                                              try clear q179
                                              try clear q180
                                              try clear q181
                                              obtain⟨x16_4,x17_4,rfl,HA,HK4,HO_9,HO_13,HO_16,HO_176001,BK163,BK175,HB⟩:=hrel;cases gk with
                                              |zero=>exact absurd HA.1 (by simp [spec_CycloAtResidues.l3])
                                              |succ k4=>
                                                have H:=HA.1;clear HA;simp only [spec_CycloAtResidues.l3] at H
                                                by_cases c44:x17_4<(x13_3.length:Int)
                                                · rw [if_pos c44] at H
                                                  have c44b0:decide (x17_4<(x13_3.length:Int))=true:=decide_eq_true c44;clear c44
                                                  by_cases c45:0≤x17_4
                                                  · rw [if_pos c45] at H
                                                    have c45b0:decide (0≤x17_4)=true:=decide_eq_true c45;clear c45
                                                    by_cases c46:x17_4<(x16_4.length:Int)
                                                    · rw [if_pos c46] at H
                                                      have c46b0:decide (x17_4<(x16_4.length:Int))=true:=decide_eq_true c46;clear c46
                                                      by_cases c47:0≤x15_3
                                                      · rw [if_pos c47] at H
                                                        have c47b0:decide (0≤x15_3)=true:=decide_eq_true c47;clear c47
                                                        by_cases c48:x15_3<(x9_3.length:Int)
                                                        · rw [if_pos c48] at H
                                                          have c48b0:decide (x15_3<(x9_3.length:Int))=true:=decide_eq_true c48;clear c48
                                                          by_cases c49:a1=0
                                                          · rw [if_pos c49] at H
                                                            exact absurd H (by simp)
                                                          · rw [if_neg c49] at H
                                                            have c49b0:(a1==0)=false:=beq_eq_false_iff_ne.mpr c49;have c49b1:(a1 !=0)=true:=bne_iff_ne.mpr c49;obtain⟨y189,hy189⟩:∃y_:List Int,y_=(x16_4.set (x17_4:Int).toNat (Int.tmod (wrap64 ((rd x16_4 x17_4)+(wrap64 ((rd x13_3 x17_4)*(wrap64 (a1 - (rd x9_3 x15_3))))))) a1)):=⟨_,rfl⟩
                                                            replace H:(if 0≤(wrap64 (x17_4+1)) then (if (wrap64 (x17_4+1))<(x16_4.length:Int) then (spec_CycloAtResidues.l3 k4 a1 l2 x9_3 x12_2 x13_3 (Int.tmod (wrap64 (x14_3*t182)) a1) x15_3 (y189.set ((wrap64 (x17_4+1)):Int).toNat (Int.tmod (wrap64 ((rd y189 (wrap64 (x17_4+1)))+(rd x13_3 x17_4))) a1)) (wrap64 (x17_4+1)) t171 x176001_3) else (none)) else (none))=some (r1,r2,r3):=by first|(rw [hy189];with_reducible exact H)|(have H2_:=(Option.bind_some _ _).symm.trans H;rw [hy189];with_reducible exact H2_)|(have H2_:=(Option.bind_some _ _).symm.trans H;with_reducible exact H2_)|with_reducible exact H|(rw [hy189];exact H)|exact H
                                                            have Ny189:=qAm hy189;clear hy189;obtain⟨ji51,hji51⟩:∃j_:Int,(wrap64 (x17_4+1))=j_:=⟨_,rfl⟩
                                                            replace H:(if 0≤(ji51) then (if (ji51)<(x16_4.length:Int) then (spec_CycloAtResidues.l3 k4 a1 l2 x9_3 x12_2 x13_3 (Int.tmod (wrap64 (x14_3*t182)) a1) x15_3 (y189.set ((ji51):Int).toNat (Int.tmod (wrap64 ((rd y189 (ji51))+(rd x13_3 x17_4))) a1)) ji51 t171 x176001_3) else (none)) else (none))=some (r1,r2,r3):=by first|(rw [hji51] at H;exact H)|(simp only [hji51] at H ⊢;exact H)
                                                            have hji51w:(IntKind.i64.wrap (x17_4+1))=ji51:=(i64_w _).trans hji51
                                                            by_cases c52:0≤(ji51)
                                                            · rw [if_pos c52] at H
                                                              have c52b0:decide (0≤(ji51))=true:=decide_eq_true c52;clear c52
                                                              by_cases c53:(ji51)<(x16_4.length:Int)
                                                              · rw [if_pos c53] at H
                                                                have c53b0:decide ((ji51)<(x16_4.length:Int))=true:=decide_eq_true c53;clear c53;obtain⟨y192,hy192⟩:∃y_:List Int,y_=(y189.set ((ji51):Int).toNat (Int.tmod (wrap64 ((rd y189 (ji51))+(rd x13_3 x17_4))) a1)):=⟨_,rfl⟩
                                                                replace H:(spec_CycloAtResidues.l3 k4 a1 l2 x9_3 x12_2 x13_3 (Int.tmod (wrap64 (x14_3*t182)) a1) x15_3 y192 ji51 t171 x176001_3)=some (r1,r2,r3):=by first|(rw [hy192];with_reducible exact H)|(have H2_:=(Option.bind_some _ _).symm.trans H;rw [hy192];with_reducible exact H2_)|(have H2_:=(Option.bind_some _ _).symm.trans H;with_reducible exact H2_)|with_reducible exact H|(rw [hy192];exact H)|exact H
                                                                have Ny192:=qAm hy192;clear hy192;have H':=qAm H;clear H;try go_wp2
                                                                have n0_:=qAm (Kd.R_drew HO_9.1);have n1_:=qAm (Kd.R_drew HO_13.1);have n2_:=qAm (Kd.R_drew HO_16.1);have n3_:=qAm (Kd.R_drew HO_176001.1);have n4_:=qAm (blk_drew BK163.1);have n5_:=qAm (blk_drew BK175.1);have n6_:=qAm (below_drew1 HB.1);clear HO_9 HO_13 HO_16 HO_176001 BK163 BK175 HB;have HO_9:=n0_;have HO_13:=n1_;have HO_16:=n2_;have HO_176001:=n3_;have BK163:=n4_;have BK175:=n5_;have HB:=n6_;clear n0_ n1_ n2_ n3_ n4_ n5_ n6_;obtain⟨Ao56,co56,eo56⟩:=Kd.R_slice HO_16.1
                                                                (first|subst eo56|(injection eo56 with f1_ f2_ f3_;have f4_:=f1_.symm;have f5_:=f3_.symm;clear f1_ f2_ f3_;subst f4_;subst f5_))
                                                                have p186:0≤(x17_4:Int):=of_decide_eq_true qB51;have q186:x17_4<(x16_4.length:Int):=of_decide_eq_true qB51;obtain⟨ad186,e186,hx186_0⟩:=Kd.at_int (Kd.R_reads' HO_16.1).2.2 x17_4 p186 q186;cases e186
                                                                replace p186:=eq_true p186;replace q186:=eq_true q186;have p187:0≤(x17_4:Int):=of_decide_eq_true qB51;have q187:x17_4<(x13_3.length:Int):=of_decide_eq_true qB51;obtain⟨ad187,e187,hx187_0⟩:=Kd.at_int (Kd.R_reads' HO_13.1).2.2 x17_4 p187 q187;cases e187
                                                                replace p187:=eq_true p187;replace q187:=eq_true q187;have p188:0≤(x15_3:Int):=of_decide_eq_true qB51;have q188:x15_3<(x9_3.length:Int):=of_decide_eq_true qB51;obtain⟨ad188,e188,hx188_0⟩:=Kd.at_int (Kd.R_reads' HO_9.1).2.2 x15_3 p188 q188;obtain rfl:ad180=ad188:=(by injection e188)
                                                                replace p188:=eq_true p188;replace q188:=eq_true q188;have p50:0≤(x17_4:Int):=of_decide_eq_true qB51;have q50:(x17_4:Int)<((x16_4.length:Int):Int):=of_decide_eq_true qB51;obtain⟨go50,co50,eo50,gb50,gl50,cl50,HG50⟩:=Kd.R_form HO_16.1 (by omega)
                                                                (first|cases eo50|(injection eo50 with ea_ en_ ec_;(first|subst ea_|(injection ea_ with ea_;subst ea_));subst ec_;clear en_))
                                                                have GB50:=qAm gb50;have GG50:=qAm HG50;clear gb50 gl50 HG50
                                                                (first|simp only [add_plain] at hx186_0|skip)
                                                                obtain⟨hx50_0,hf50_0⟩:=Kd.R_celln 0 HO_16.1 (x17_4:Int) p50 q50;replace p50:=eq_true p50;replace q50:=eq_true q50;have HP57:=Kd.R_putn HO_16.1 (x17_4:Int) (Int.tmod (wrap64 ((rd x16_4 x17_4)+(wrap64 ((rd x13_3 x17_4)*(wrap64 (a1 - (rd x9_3 x15_3))))))) a1);rw [← Ny189.1] at HP57;have HQ57:=qAm HP57;clear HP57;refine start_ (n:=22) (S:=fun w'=>w'.cell? ⟨go50,(x17_4).toNat,none⟩=some (.int .i64 (rd x16_4 x17_4))∧w'.cell? (ad187.add (x17_4).toNat)=some (.int .i64 (rd x13_3 x17_4))∧w'.cell? (ad180.add (x15_3).toNat)=some (.int .i64 (rd x9_3 x15_3))) (ds:=[21]) #[false,false,false,false,false,false,false,false,false,false,false,false,false,false,false,false,false,false,false,false,false,false] (by kernel_rfl) rfl rfl ⟨hx186_0,hx187_0,hx188_0⟩ (fun hHeld=>?_);refine with_tabW spec_CycloAtResidues.tab28 spec_CycloAtResidues.bits28 (fun HT_ HW_=>?_);generalize wr.drew=w55 at HO_9 HO_13 HO_16 HO_176001 BK163 BK175 HB GG50 HQ57 hf50_0 hx186_0 hx187_0 hx188_0 hx50_0 hHeld ⊢;refine pure_ (i:=0) (N:=some 102) (v:=?_) (a':=?_) #[true,false,false,false,false,false,false,false,false,false,false,false,false,false,false,false,false,false,false,false,false,false] rfl rfl (any_of HT_.1 (by kernel_rfl)) (fun _ _ _ h=>h) (Or.inl ⟨by rfl,?_⟩) ?_ ?_;rotate_left
                                                                · intro w'
                                                                  go_simp;with_reducible rfl
                                                                rotate_left
                                                                · simp only [Act.put,qSa,qSb,qSc,i64_w,i32_w]
                                                                  rfl
                                                                refine pure_ (i:=1) (N:=some 103) (v:=?_) (a':=?_) #[true,true,false,false,false,false,false,false,false,false,false,false,false,false,false,false,false,false,false,false,false,false] rfl rfl (any_of HT_.1 (by kernel_rfl)) (fun _ _ _ h=>h) (Or.inl ⟨by rfl,?_⟩) ?_ ?_;rotate_left
                                                                · intro w'
                                                                  go_simp;with_reducible rfl
                                                                rotate_left
                                                                · simp only [Act.put,qSa,qSb,qSc,i64_w,i32_w]
                                                                  rfl
                                                                refine pure_ (i:=2) (N:=some 104) (v:=?_) (a':=?_) #[true,true,true,false,false,false,false,false,false,false,false,false,false,false,false,false,false,false,false,false,false,false] rfl rfl (any_of HT_.1 (by kernel_rfl)) (fun _ _ _ h=>h) (Or.inl ⟨by rfl,?_⟩) ?_ ?_;rotate_left
                                                                · intro w'
                                                                  go_simp;with_reducible rfl
                                                                rotate_left
                                                                · simp only [Act.put,qSa,qSb,qSc,i64_w,i32_w]
                                                                  rfl
                                                                refine pure_ (i:=3) (N:=some 105) (v:=?_) (a':=?_) #[true,true,true,true,false,false,false,false,false,false,false,false,false,false,false,false,false,false,false,false,false,false] rfl rfl (any_of HT_.1 (by kernel_rfl)) (fun _ _ _ h=>h) (Or.inl ⟨by rfl,?_⟩) ?_ ?_;rotate_left
                                                                · intro w'
                                                                  go_simp;with_reducible rfl
                                                                rotate_left
                                                                · simp only [Act.put,qSa,qSb,qSc,i64_w,i32_w]
                                                                  rfl
                                                                refine pure_ (i:=4) (N:=some 106) (v:=?_) (a':=?_) #[true,true,true,true,true,false,false,false,false,false,false,false,false,false,false,false,false,false,false,false,false,false] rfl rfl (any_of HT_.1 (by kernel_rfl)) (fun _ _ _ h=>h) (Or.inl ⟨by rfl,?_⟩) ?_ ?_;rotate_left
                                                                · intro w'
                                                                  go_simp;with_reducible rfl
                                                                rotate_left
                                                                · simp only [Act.put,qSa,qSb,qSc,i64_w,i32_w]
                                                                  rfl
                                                                refine pure_ (i:=6) (N:=some 108) (v:=?_) (a':=?_) #[true,true,true,true,true,false,true,false,false,false,false,false,false,false,false,false,false,false,false,false,false,false] rfl rfl (any_of HT_.1 (by kernel_rfl)) (fun _ _ _ h=>h) (Or.inl ⟨by rfl,?_⟩) ?_ ?_;rotate_left
                                                                · intro w'
                                                                  go_simp;with_reducible rfl
                                                                rotate_left
                                                                · simp only [Act.put,qSa,qSb,qSc,i64_w,i32_w]
                                                                  rfl
                                                                refine pure_ (i:=7) (N:=some 109) (v:=?_) (a':=?_) #[true,true,true,true,true,false,true,true,false,false,false,false,false,false,false,false,false,false,false,false,false,false] rfl rfl (any_of HT_.1 (by kernel_rfl)) (fun _ _ _ h=>h) (Or.inl ⟨by rfl,?_⟩) ?_ ?_;rotate_left
                                                                · intro w'
                                                                  go_simp;with_reducible rfl
                                                                rotate_left
                                                                · simp only [Act.put,qSa,qSb,qSc,i64_w,i32_w]
                                                                  rfl
                                                                refine pure_ (i:=8) (N:=some 110) (v:=?_) (a':=?_) #[true,true,true,true,true,false,true,true,true,false,false,false,false,false,false,false,false,false,false,false,false,false] rfl rfl (any_of HT_.1 (by kernel_rfl)) (fun _ _ _ h=>h) (Or.inl ⟨by rfl,?_⟩) ?_ ?_;rotate_left
                                                                · intro w'
                                                                  go_simp;with_reducible rfl
                                                                rotate_left
                                                                · simp only [Act.put,qSa,qSb,qSc,i64_w,i32_w]
                                                                  rfl
                                                                refine pure_ (i:=10) (N:=some 112) (v:=?_) (a':=?_) #[true,true,true,true,true,false,true,true,true,false,true,false,false,false,false,false,false,false,false,false,false,false] rfl rfl (any_of HT_.1 (by kernel_rfl)) (fun _ _ _ h=>h) (Or.inl ⟨by rfl,?_⟩) ?_ ?_;rotate_left
                                                                · intro w'
                                                                  go_simp;with_reducible rfl
                                                                rotate_left
                                                                · simp only [Act.put,qSa,qSb,qSc,i64_w,i32_w]
                                                                  rfl
                                                                refine pure_ (i:=11) (N:=some 113) (v:=?_) (a':=?_) #[true,true,true,true,true,false,true,true,true,false,true,true,false,false,false,false,false,false,false,false,false,false] rfl rfl (any_of HT_.1 (by kernel_rfl)) (fun _ _ _ h=>h) (Or.inl ⟨by rfl,?_⟩) ?_ ?_;rotate_left
                                                                · intro w'
                                                                  go_simp;with_reducible rfl
                                                                rotate_left
                                                                · simp only [Act.put,qSa,qSb,qSc,i64_w,i32_w]
                                                                  rfl
                                                                refine pure_ (i:=12) (N:=some 114) (v:=?_) (a':=?_) #[true,true,true,true,true,false,true,true,true,false,true,true,true,false,false,false,false,false,false,false,false,false] rfl rfl (any_of HT_.1 (by kernel_rfl)) (fun _ _ _ h=>h) (Or.inl ⟨by rfl,?_⟩) ?_ ?_;rotate_left
                                                                · intro w'
                                                                  go_simp;with_reducible rfl
                                                                rotate_left
                                                                · simp only [Act.put,qSa,qSb,qSc,i64_w,i32_w]
                                                                  rfl
                                                                refine pure_ (i:=13) (N:=some 115) (v:=?_) (a':=?_) #[true,true,true,true,true,false,true,true,true,false,true,true,true,true,false,false,false,false,false,false,false,false] rfl rfl (any_of HT_.1 (by kernel_rfl)) (fun _ _ _ h=>h) (Or.inl ⟨by rfl,?_⟩) ?_ ?_;rotate_left
                                                                · intro w'
                                                                  go_simp;with_reducible rfl
                                                                rotate_left
                                                                · simp only [Act.put,qSa,qSb,qSc,i64_w,i32_w]
                                                                  rfl
                                                                refine pure_ (i:=18) (N:=some 120) (v:=?_) (a':=?_) #[true,true,true,true,true,false,true,true,true,false,true,true,true,true,false,false,false,false,true,false,false,false] rfl rfl (any_of HT_.1 (by kernel_rfl)) (fun _ _ _ h=>h) (Or.inl ⟨by rfl,?_⟩) ?_ ?_;rotate_left
                                                                · intro w'
                                                                  go_simp;with_reducible rfl
                                                                rotate_left
                                                                · simp only [Act.put,qSa,qSb,qSc,i64_w,i32_w]
                                                                  rfl
                                                                refine take_ (i:=5) (N:=some 107) (v:=?_) (a':=?_) #[true,true,true,true,true,true,true,true,true,false,true,true,true,true,false,false,false,false,true,false,false,false] rfl rfl (take_ofW HT_.1 HW_.1 (by kernel_rfl)) (fun _ _ _ h=>h) (Or.inl ⟨by rfl,?_⟩) hHeld ?_ ?_;rotate_left
                                                                · rintro w' ⟨s0,s1,s2⟩
                                                                  go_simp;with_reducible rfl
                                                                rotate_left
                                                                · simp only [Act.put,qSa,qSb,qSc,i64_w,i32_w]
                                                                  rfl
                                                                refine take_ (i:=9) (N:=some 111) (v:=?_) (a':=?_) #[true,true,true,true,true,true,true,true,true,true,true,true,true,true,false,false,false,false,true,false,false,false] rfl rfl (take_ofW HT_.1 HW_.1 (by kernel_rfl)) (fun _ _ _ h=>h) (Or.inl ⟨by rfl,?_⟩) hHeld ?_ ?_;rotate_left
                                                                · rintro w' ⟨s0,s1,s2⟩
                                                                  go_simp;with_reducible rfl
                                                                rotate_left
                                                                · simp only [Act.put,qSa,qSb,qSc,i64_w,i32_w]
                                                                  rfl
                                                                refine take_ (i:=14) (N:=some 116) (v:=?_) (a':=?_) #[true,true,true,true,true,true,true,true,true,true,true,true,true,true,true,false,false,false,true,false,false,false] rfl rfl (take_ofW HT_.1 HW_.1 (by kernel_rfl)) (fun _ _ _ h=>h) (Or.inl ⟨by rfl,?_⟩) hHeld ?_ ?_;rotate_left
                                                                · rintro w' ⟨s0,s1,s2⟩
                                                                  go_simp;with_reducible rfl
                                                                rotate_left
                                                                · simp only [Act.put,qSa,qSb,qSc,i64_w,i32_w]
                                                                  rfl
                                                                refine pure_ (i:=15) (N:=some 117) (v:=?_) (a':=?_) #[true,true,true,true,true,true,true,true,true,true,true,true,true,true,true,true,false,false,true,false,false,false] rfl rfl (any_of HT_.1 (by kernel_rfl)) (fun _ _ _ h=>h) (Or.inl ⟨by rfl,?_⟩) ?_ ?_;rotate_left
                                                                · intro w'
                                                                  go_simp;with_reducible rfl
                                                                rotate_left
                                                                · simp only [Act.put,qSa,qSb,qSc,i64_w,i32_w]
                                                                  rfl
                                                                refine pure_ (i:=16) (N:=some 118) (v:=?_) (a':=?_) #[true,true,true,true,true,true,true,true,true,true,true,true,true,true,true,true,true,false,true,false,false,false] rfl rfl (any_of HT_.1 (by kernel_rfl)) (fun _ _ _ h=>h) (Or.inl ⟨by rfl,?_⟩) ?_ ?_;rotate_left
                                                                · intro w'
                                                                  go_simp;with_reducible rfl
                                                                rotate_left
                                                                · simp only [Act.put,qSa,qSb,qSc,i64_w,i32_w]
                                                                  rfl
                                                                refine pure_ (i:=17) (N:=some 119) (v:=?_) (a':=?_) #[true,true,true,true,true,true,true,true,true,true,true,true,true,true,true,true,true,true,true,false,false,false] rfl rfl (any_of HT_.1 (by kernel_rfl)) (fun _ _ _ h=>h) (Or.inl ⟨by rfl,?_⟩) ?_ ?_;rotate_left
                                                                · intro w'
                                                                  go_simp;with_reducible rfl
                                                                rotate_left
                                                                · simp only [Act.put,qSa,qSb,qSc,i64_w,i32_w]
                                                                  rfl
                                                                refine pure_ (i:=19) (N:=some 121) (v:=?_) (a':=?_) #[true,true,true,true,true,true,true,true,true,true,true,true,true,true,true,true,true,true,true,true,false,false] rfl rfl (any_of HT_.1 (by kernel_rfl)) (fun _ _ _ h=>h) (Or.inl ⟨by rfl,?_⟩) ?_ ?_;rotate_left
                                                                · intro w'
                                                                  go_simp;with_reducible rfl
                                                                rotate_left
                                                                · simp only [Act.put,qSa,qSb,qSc,i64_w,i32_w]
                                                                  rfl
                                                                refine pure_ (i:=20) (N:=some 122) (v:=?_) (a':=?_) #[true,true,true,true,true,true,true,true,true,true,true,true,true,true,true,true,true,true,true,true,true,false] rfl rfl (any_of HT_.1 (by kernel_rfl)) (fun _ _ _ h=>h) (Or.inl ⟨by rfl,?_⟩) ?_ ?_;rotate_left
                                                                · intro w'
                                                                  go_simp;with_reducible rfl
                                                                rotate_left
                                                                · simp only [Act.put,qSa,qSb,qSc,i64_w,i32_w]
                                                                  rfl
                                                                refine last_ (i:=21) (N:=none) #[true,true,true,true,true,true,true,true,true,true,true,true,true,true,true,true,true,true,true,true,true,true] rfl rfl (one_of HT_.1 (by kernel_rfl)) (by decide) (fun K hK=>?_);refine skip_ (w1:=?_) (by rfl) rfl ?_ ?_;rotate_left
                                                                · go_simp
                                                                  rfl
                                                                refine hK.out _ _ ?_;clear hK K;refine done_ (done_of HT_.1 (by kernel_rfl)) ?_;try go_wp2
                                                                have n0_:Aside0 (Kd.R (Kd.int .i64) 2 (w55.setCell ⟨go50,(x17_4:Int).toNat,none⟩ (.int .i64 (Int.tmod (wrap64 ((rd x16_4 x17_4)+(wrap64 ((rd x13_3 x17_4)*(wrap64 (a1 - (rd x9_3 x15_3))))))) a1))) w.heap.size (fun k_=>some k_≠(.slice (some ad187) x13_3.length co41:Value).ownBlock∧some k_≠(.slice (some ⟨go50,0,none⟩) x16_4.length co56:Value).ownBlock∧some k_≠(u176001:Value).ownBlock) (.slice (some ad180) x9_3.length co12) x9_3):=⟨by (with_reducible repeat(first|apply Kd.R_alloc|apply Kd.R_drewN|apply Kd.R_drew));exact Kd.R_mono (Kd.R_far (p:=⟨go50,(x17_4:Int).toNat,none⟩) (Kd.R_mono HO_9.1 (fun k_ hk=>(⟨hk,fun e_=>hk.2.1 (by rw [e_];rfl)⟩:_∧k_≠go50))) (fun _ hk=>hk.2) (.int .i64 (Int.tmod (wrap64 ((rd x16_4 x17_4)+(wrap64 ((rd x13_3 x17_4)*(wrap64 (a1 - (rd x9_3 x15_3))))))) a1))) (fun _ hk=>⟨hk.1.1,⟨hk.1.2.1,hk.1.2.2⟩⟩)⟩
                                                                have n1_:Aside0 (Kd.R (Kd.int .i64) 2 (w55.setCell ⟨go50,(x17_4:Int).toNat,none⟩ (.int .i64 (Int.tmod (wrap64 ((rd x16_4 x17_4)+(wrap64 ((rd x13_3 x17_4)*(wrap64 (a1 - (rd x9_3 x15_3))))))) a1))) w.heap.size (fun k_=>some k_≠(.slice (some ad180) x9_3.length co12:Value).ownBlock∧some k_≠(.slice (some ⟨go50,0,none⟩) x16_4.length co56:Value).ownBlock∧some k_≠(u176001:Value).ownBlock) (.slice (some ad187) x13_3.length co41) x13_3):=⟨by (with_reducible repeat(first|apply Kd.R_alloc|apply Kd.R_drewN|apply Kd.R_drew));exact Kd.R_mono (Kd.R_far (p:=⟨go50,(x17_4:Int).toNat,none⟩) (Kd.R_mono HO_13.1 (fun k_ hk=>(⟨hk,fun e_=>hk.2.1 (by rw [e_];rfl)⟩:_∧k_≠go50))) (fun _ hk=>hk.2) (.int .i64 (Int.tmod (wrap64 ((rd x16_4 x17_4)+(wrap64 ((rd x13_3 x17_4)*(wrap64 (a1 - (rd x9_3 x15_3))))))) a1))) (fun _ hk=>⟨hk.1.1,⟨hk.1.2.1,hk.1.2.2⟩⟩)⟩
                                                                have n2_:Aside0 (Kd.R (Kd.int .i64) 2 (w55.setCell ⟨go50,(x17_4:Int).toNat,none⟩ (.int .i64 (Int.tmod (wrap64 ((rd x16_4 x17_4)+(wrap64 ((rd x13_3 x17_4)*(wrap64 (a1 - (rd x9_3 x15_3))))))) a1))) w.heap.size (fun k_=>some k_≠(.slice (some ad180) x9_3.length co12:Value).ownBlock∧some k_≠(.slice (some ad187) x13_3.length co41:Value).ownBlock∧some k_≠(u176001:Value).ownBlock) (.slice (some ⟨go50,0,none⟩) x16_4.length co56) y189):=⟨by (with_reducible repeat(first|apply Kd.R_alloc|apply Kd.R_drewN|apply Kd.R_drew));exact HQ57.1⟩
                                                                have n3_:Aside0 (Kd.R (Kd.int .i64) 2 (w55.setCell ⟨go50,(x17_4:Int).toNat,none⟩ (.int .i64 (Int.tmod (wrap64 ((rd x16_4 x17_4)+(wrap64 ((rd x13_3 x17_4)*(wrap64 (a1 - (rd x9_3 x15_3))))))) a1))) w.heap.size (fun k_=>some k_≠(.slice (some ad180) x9_3.length co12:Value).ownBlock∧some k_≠(.slice (some ad187) x13_3.length co41:Value).ownBlock∧some k_≠(.slice (some ⟨go50,0,none⟩) x16_4.length co56:Value).ownBlock) u176001 x176001_3):=⟨by (with_reducible repeat(first|apply Kd.R_alloc|apply Kd.R_drewN|apply Kd.R_drew));exact Kd.R_mono (Kd.R_far (p:=⟨go50,(x17_4:Int).toNat,none⟩) (Kd.R_mono HO_176001.1 (fun k_ hk=>(⟨hk,fun e_=>hk.2.2 (by rw [e_];rfl)⟩:_∧k_≠go50))) (fun _ hk=>hk.2) (.int .i64 (Int.tmod (wrap64 ((rd x16_4 x17_4)+(wrap64 ((rd x13_3 x17_4)*(wrap64 (a1 - (rd x9_3 x15_3))))))) a1))) (fun _ hk=>⟨hk.1.1,⟨hk.1.2.1,hk.1.2.2⟩⟩)⟩
                                                                have n4_:Aside0 ((w55.setCell ⟨go50,(x17_4:Int).toNat,none⟩ (.int .i64 (Int.tmod (wrap64 ((rd x16_4 x17_4)+(wrap64 ((rd x13_3 x17_4)*(wrap64 (a1 - (rd x9_3 x15_3))))))) a1))).heap[gb163]? =some (.cells #[.int .i64 x164000_1,.slice none 0 0] 28 (0,0))):=⟨by (with_reducible repeat(first|refine blk_drewN ?_ _|refine blk_drew ?_|refine blk_alloc ?_ _));refine blk_far ?_ qB48 _;(with_reducible repeat(first|refine blk_drewN ?_ _|refine blk_drew ?_|refine blk_alloc ?_ _));exact BK163.1⟩
                                                                have n5_:Aside0 ((w55.setCell ⟨go50,(x17_4:Int).toNat,none⟩ (.int .i64 (Int.tmod (wrap64 ((rd x16_4 x17_4)+(wrap64 ((rd x13_3 x17_4)*(wrap64 (a1 - (rd x9_3 x15_3))))))) a1))).heap[gb175]? =some (.cells #[.int .i64 t171,u176001] 28 (0,0))):=⟨by (with_reducible repeat(first|refine blk_drewN ?_ _|refine blk_drew ?_|refine blk_alloc ?_ _));refine blk_far ?_ qB49 _;(with_reducible repeat(first|refine blk_drewN ?_ _|refine blk_drew ?_|refine blk_alloc ?_ _));exact BK175.1⟩
                                                                have n6_:Aside0 (Below w.heap.size w (w55.setCell ⟨go50,(x17_4:Int).toNat,none⟩ (.int .i64 (Int.tmod (wrap64 ((rd x16_4 x17_4)+(wrap64 ((rd x13_3 x17_4)*(wrap64 (a1 - (rd x9_3 x15_3))))))) a1)))):=⟨by repeat(first|(with_reducible first|exact HB.1|apply below_alloc|apply pw_below_drewN|apply below_drew1|refine below_set ?_ GB50.1|refine below_set ?_ GE163.1|refine below_set ?_ GE175.1)|exact HB.1)⟩
                                                                (try clear HO_9)
                                                                (try clear HO_13)
                                                                (try clear HO_16)
                                                                (try clear HO_176001)
                                                                (try clear BK163)
                                                                (try clear BK175)
                                                                (try clear HB)
                                                                generalize (w55.setCell ⟨go50,(x17_4:Int).toNat,none⟩ (.int .i64 (Int.tmod (wrap64 ((rd x16_4 x17_4)+(wrap64 ((rd x13_3 x17_4)*(wrap64 (a1 - (rd x9_3 x15_3))))))) a1)))=w58 at n0_ n1_ n2_ n3_ n4_ n5_ n6_ ⊢;have HO_9:=n0_;have HO_13:=n1_;have HO_16:=n2_;have HO_176001:=n3_;have BK163:=n4_;have BK175:=n5_;have HB:=n6_;clear n0_ n1_ n2_ n3_ n4_ n5_ n6_;have n0_:=qAm (Kd.R_drew HO_9.1);have n1_:=qAm (Kd.R_drew HO_13.1);have n2_:=qAm (Kd.R_drew HO_16.1);have n3_:=qAm (Kd.R_drew HO_176001.1);have n4_:=qAm (blk_drew BK163.1);have n5_:=qAm (blk_drew BK175.1);have n6_:=qAm (below_drew1 HB.1);clear HO_9 HO_13 HO_16 HO_176001 BK163 BK175 HB;have HO_9:=n0_;have HO_13:=n1_;have HO_16:=n2_;have HO_176001:=n3_;have BK163:=n4_;have BK175:=n5_;have HB:=n6_;clear n0_ n1_ n2_ n3_ n4_ n5_ n6_;have p190:0≤((ji51):Int):=of_decide_eq_true qB51;have q190:(ji51)<(y189.length:Int):=(by have h_:((ji51):Int)<((x16_4.length:Int):Int):=of_decide_eq_true qB51;first|(have e_:=(Kd.R_reads' HO_16.1).1;omega)|simpa only [Ny189.1,List.length_set] using h_)
                                                                have ql190:(((ji51):Int)<((x16_4.length:Int):Int))=True:=eq_true (of_decide_eq_true qB51);obtain⟨ad190,e190,hx190_0⟩:=Kd.at_int (Kd.R_reads' HO_16.1).2.2 (ji51) p190 q190;obtain rfl:(⟨go50,0,none⟩:Addr)=ad190:=(by injection e190)
                                                                (first|simp only [add_plain] at hx190_0|simp only [add_at] at hx190_0|simp only [Addr.add,Nat.zero_add] at hx190_0|skip)
                                                                replace p190:=eq_true p190;replace q190:=eq_true q190;have p191:0≤(x17_4:Int):=of_decide_eq_true qB51;have q191:x17_4<(x13_3.length:Int):=of_decide_eq_true qB51;obtain⟨ad191,e191,hx191_0⟩:=Kd.at_int (Kd.R_reads' HO_13.1).2.2 x17_4 p191 q191;obtain rfl:ad187=ad191:=(by injection e191)
                                                                replace p191:=eq_true p191;replace q191:=eq_true q191;have p54:0≤((ji51):Int):=of_decide_eq_true qB51;have q54:((ji51):Int)<((x16_4.length:Int):Int):=of_decide_eq_true qB51;obtain⟨hx54_0,hf54_0⟩:=Kd.R_celln 0 HO_16.1 ((ji51):Int) p54 q54;replace p54:=eq_true p54;replace q54:=eq_true q54;have HP60:=Kd.R_putn HO_16.1 ((ji51):Int) (Int.tmod (wrap64 ((rd y189 (ji51))+(rd x13_3 x17_4))) a1);rw [← Ny192.1] at HP60;have HQ60:=qAm HP60;clear HP60;refine start_ (n:=17) (S:=fun w'=>w'.cell? ⟨go50,((ji51)).toNat,none⟩=some (.int .i64 (rd y189 (ji51)))∧w'.cell? (ad187.add (x17_4).toNat)=some (.int .i64 (rd x13_3 x17_4))) (ds:=[16]) #[false,false,false,false,false,false,false,false,false,false,false,false,false,false,false,false,false] (by kernel_rfl) rfl rfl ⟨hx190_0,hx191_0⟩ (fun hHeld=>?_);refine with_tabW spec_CycloAtResidues.tab29 spec_CycloAtResidues.bits29 (fun HT_ HW_=>?_);generalize w58.drew=w59 at HO_9 HO_13 HO_16 HO_176001 BK163 BK175 HB HQ57 HQ60 hf54_0 hx190_0 hx191_0 hx54_0 hHeld ⊢;refine pure_ (i:=0) (N:=some 123) (v:=?_) (a':=?_) #[true,false,false,false,false,false,false,false,false,false,false,false,false,false,false,false,false] rfl rfl (any_of HT_.1 (by kernel_rfl)) (fun _ _ _ h=>h) (Or.inl ⟨by rfl,?_⟩) ?_ ?_;rotate_left
                                                                · intro w'
                                                                  go_simp;with_reducible rfl
                                                                rotate_left
                                                                · simp only [Act.put,qSa,qSb,qSc,i64_w,i32_w]
                                                                  rfl
                                                                refine pure_ (i:=1) (N:=some 124) (v:=?_) (a':=?_) #[true,true,false,false,false,false,false,false,false,false,false,false,false,false,false,false,false] rfl rfl (any_of HT_.1 (by kernel_rfl)) (fun _ _ _ h=>h) (Or.inl ⟨by rfl,?_⟩) ?_ ?_;rotate_left
                                                                · intro w'
                                                                  go_simp;with_reducible rfl
                                                                rotate_left
                                                                · simp only [Act.put,qSa,qSb,qSc,i64_w,i32_w]
                                                                  rfl
                                                                refine pure_ (i:=2) (N:=some 125) (v:=?_) (a':=?_) #[true,true,true,false,false,false,false,false,false,false,false,false,false,false,false,false,false] rfl rfl (any_of HT_.1 (by kernel_rfl)) (fun _ _ _ h=>h) (Or.inl ⟨by rfl,?_⟩) ?_ ?_;rotate_left
                                                                · intro w'
                                                                  go_simp;with_reducible rfl
                                                                rotate_left
                                                                · simp only [Act.put,qSa,qSb,qSc,i64_w,i32_w]
                                                                  rfl
                                                                refine pure_ (i:=3) (N:=some 126) (v:=?_) (a':=?_) #[true,true,true,true,false,false,false,false,false,false,false,false,false,false,false,false,false] rfl rfl (any_of HT_.1 (by kernel_rfl)) (fun _ _ _ h=>h) (Or.inl ⟨by rfl,?_⟩) ?_ ?_;rotate_left
                                                                · intro w'
                                                                  go_simp;with_reducible rfl
                                                                rotate_left
                                                                · simp only [Act.put,qSa,qSb,qSc,i64_w,i32_w]
                                                                  rfl
                                                                refine pure_ (i:=4) (N:=some 127) (v:=?_) (a':=?_) #[true,true,true,true,true,false,false,false,false,false,false,false,false,false,false,false,false] rfl rfl (any_of HT_.1 (by kernel_rfl)) (fun _ _ _ h=>h) (Or.inl ⟨by rfl,?_⟩) ?_ ?_;rotate_left
                                                                · intro w'
                                                                  go_simp;with_reducible rfl
                                                                rotate_left
                                                                · simp only [Act.put,qSa,qSb,qSc,i64_w,i32_w]
                                                                  rfl
                                                                refine pure_ (i:=5) (N:=some 128) (v:=?_) (a':=?_) #[true,true,true,true,true,true,false,false,false,false,false,false,false,false,false,false,false] rfl rfl (any_of HT_.1 (by kernel_rfl)) (fun _ _ _ h=>h) (Or.inl ⟨by rfl,?_⟩) ?_ ?_;rotate_left
                                                                · intro w'
                                                                  go_simp;with_reducible rfl
                                                                rotate_left
                                                                · simp only [Act.put,qSa,qSb,qSc,i64_w,i32_w]
                                                                  rfl
                                                                refine pure_ (i:=6) (N:=some 129) (v:=?_) (a':=?_) #[true,true,true,true,true,true,true,false,false,false,false,false,false,false,false,false,false] rfl rfl (any_of HT_.1 (by kernel_rfl)) (fun _ _ _ h=>h) (Or.inl ⟨by rfl,?_⟩) ?_ ?_;rotate_left
                                                                · intro w'
                                                                  go_simp;with_reducible rfl
                                                                rotate_left
                                                                · simp only [Act.put,qSa,qSb,qSc,i64_w,i32_w]
                                                                  rfl
                                                                refine pure_ (i:=8) (N:=some 131) (v:=?_) (a':=?_) #[true,true,true,true,true,true,true,false,true,false,false,false,false,false,false,false,false] rfl rfl (any_of HT_.1 (by kernel_rfl)) (fun _ _ _ h=>h) (Or.inl ⟨by rfl,?_⟩) ?_ ?_;rotate_left
                                                                · intro w'
                                                                  go_simp;with_reducible rfl
                                                                rotate_left
                                                                · simp only [Act.put,qSa,qSb,qSc,i64_w,i32_w]
                                                                  rfl
                                                                refine pure_ (i:=9) (N:=some 132) (v:=?_) (a':=?_) #[true,true,true,true,true,true,true,false,true,true,false,false,false,false,false,false,false] rfl rfl (any_of HT_.1 (by kernel_rfl)) (fun _ _ _ h=>h) (Or.inl ⟨by rfl,?_⟩) ?_ ?_;rotate_left
                                                                · intro w'
                                                                  go_simp;with_reducible rfl
                                                                rotate_left
                                                                · simp only [Act.put,qSa,qSb,qSc,i64_w,i32_w]
                                                                  rfl
                                                                refine pure_ (i:=10) (N:=some 133) (v:=?_) (a':=?_) #[true,true,true,true,true,true,true,false,true,true,true,false,false,false,false,false,false] rfl rfl (any_of HT_.1 (by kernel_rfl)) (fun _ _ _ h=>h) (Or.inl ⟨by rfl,?_⟩) ?_ ?_;rotate_left
                                                                · intro w'
                                                                  go_simp;with_reducible rfl
                                                                rotate_left
                                                                · simp only [Act.put,qSa,qSb,qSc,i64_w,i32_w]
                                                                  rfl
                                                                refine pure_ (i:=13) (N:=some 136) (v:=?_) (a':=?_) #[true,true,true,true,true,true,true,false,true,true,true,false,false,true,false,false,false] rfl rfl (any_of HT_.1 (by kernel_rfl)) (fun _ _ _ h=>h) (Or.inl ⟨by rfl,?_⟩) ?_ ?_;rotate_left
                                                                · intro w'
                                                                  go_simp;with_reducible rfl
                                                                rotate_left
                                                                · simp only [Act.put,qSa,qSb,qSc,i64_w,i32_w]
                                                                  rfl
                                                                refine take_ (i:=7) (N:=some 130) (v:=?_) (a':=?_) #[true,true,true,true,true,true,true,true,true,true,true,false,false,true,false,false,false] rfl rfl (take_ofW HT_.1 HW_.1 (by kernel_rfl)) (fun _ _ _ h=>h) (Or.inl ⟨by rfl,?_⟩) hHeld ?_ ?_;rotate_left
                                                                · rintro w' ⟨s0,s1⟩
                                                                  go_simp;with_reducible rfl
                                                                rotate_left
                                                                · simp only [Act.put,qSa,qSb,qSc,i64_w,i32_w]
                                                                  rfl
                                                                refine take_ (i:=11) (N:=some 134) (v:=?_) (a':=?_) #[true,true,true,true,true,true,true,true,true,true,true,true,false,true,false,false,false] rfl rfl (take_ofW HT_.1 HW_.1 (by kernel_rfl)) (fun _ _ _ h=>h) (Or.inl ⟨by rfl,?_⟩) hHeld ?_ ?_;rotate_left
                                                                · rintro w' ⟨s0,s1⟩
                                                                  go_simp;with_reducible rfl
                                                                rotate_left
                                                                · simp only [Act.put,qSa,qSb,qSc,i64_w,i32_w]
                                                                  rfl
                                                                refine pure_ (i:=12) (N:=some 135) (v:=?_) (a':=?_) #[true,true,true,true,true,true,true,true,true,true,true,true,true,true,false,false,false] rfl rfl (any_of HT_.1 (by kernel_rfl)) (fun _ _ _ h=>h) (Or.inl ⟨by rfl,?_⟩) ?_ ?_;rotate_left
                                                                · intro w'
                                                                  go_simp;with_reducible rfl
                                                                rotate_left
                                                                · simp only [Act.put,qSa,qSb,qSc,i64_w,i32_w]
                                                                  rfl
                                                                refine pure_ (i:=14) (N:=some 137) (v:=?_) (a':=?_) #[true,true,true,true,true,true,true,true,true,true,true,true,true,true,true,false,false] rfl rfl (any_of HT_.1 (by kernel_rfl)) (fun _ _ _ h=>h) (Or.inl ⟨by rfl,?_⟩) ?_ ?_;rotate_left
                                                                · intro w'
                                                                  go_simp;with_reducible rfl
                                                                rotate_left
                                                                · simp only [Act.put,qSa,qSb,qSc,i64_w,i32_w]
                                                                  rfl
                                                                refine pure_ (i:=15) (N:=some 138) (v:=?_) (a':=?_) #[true,true,true,true,true,true,true,true,true,true,true,true,true,true,true,true,false] rfl rfl (any_of HT_.1 (by kernel_rfl)) (fun _ _ _ h=>h) (Or.inl ⟨by rfl,?_⟩) ?_ ?_;rotate_left
                                                                · intro w'
                                                                  go_simp;with_reducible rfl
                                                                rotate_left
                                                                · simp only [Act.put,qSa,qSb,qSc,i64_w,i32_w]
                                                                  rfl
                                                                refine last_ (i:=16) (N:=none) #[true,true,true,true,true,true,true,true,true,true,true,true,true,true,true,true,true] rfl rfl (one_of HT_.1 (by kernel_rfl)) (by decide) (fun K hK=>?_);refine skip_ (w1:=?_) (by rfl) rfl ?_ ?_;rotate_left
                                                                · go_simp
                                                                  rfl
                                                                refine hK.out _ _ ?_;clear hK K;refine done_ (done_of HT_.1 (by kernel_rfl)) ?_;try go_wp2
                                                                (first|go_roundg k4|((try simp only [add_plain] at *);go_roundg k4))
                                                                case measure=>have:=HK1.1;have:=HK2.1;have:=HK3.1;have:=HK4.1;omega
                                                                case rel=>exact⟨(y192),(ji51),(by first|rfl|(simp;done)|(simp only [← hji51] <;> (first|rfl|simp))|(simp [*];done)),H',⟨by have:=HK1.1;have:=HK2.1;have:=HK3.1;have:=HK4.1;omega⟩,⟨by (try simp only [hl9_2]);(try simp only [hl9_3]);(with_reducible repeat(first|apply Kd.R_alloc|apply Kd.R_drewN|apply Kd.R_drew));exact Kd.R_mono (Kd.R_far (p:=⟨go50,((ji51):Int).toNat,none⟩) (Kd.R_mono HO_9.1 (fun k_ hk=>(⟨hk,fun e_=>hk.2.1 (by rw [e_];rfl)⟩:_∧k_≠go50))) (fun _ hk=>hk.2) (.int .i64 (Int.tmod (wrap64 ((rd y189 (ji51))+(rd x13_3 x17_4))) a1))) (fun _ hk=>⟨hk.1.1,⟨hk.1.2.1,hk.1.2.2⟩⟩)⟩,⟨by (try simp only [hl9_2]);(try simp only [hl9_3]);(with_reducible repeat(first|apply Kd.R_alloc|apply Kd.R_drewN|apply Kd.R_drew));exact Kd.R_mono (Kd.R_far (p:=⟨go50,((ji51):Int).toNat,none⟩) (Kd.R_mono HO_13.1 (fun k_ hk=>(⟨hk,fun e_=>hk.2.1 (by rw [e_];rfl)⟩:_∧k_≠go50))) (fun _ hk=>hk.2) (.int .i64 (Int.tmod (wrap64 ((rd y189 (ji51))+(rd x13_3 x17_4))) a1))) (fun _ hk=>⟨hk.1.1,⟨hk.1.2.1,hk.1.2.2⟩⟩)⟩,⟨by (try simp only [hl9_2]);(try simp only [hl9_3]);(with_reducible repeat(first|apply Kd.R_alloc|apply Kd.R_drewN|apply Kd.R_drew));exact HQ60.1⟩,⟨by (try simp only [hl9_2]);(try simp only [hl9_3]);(with_reducible repeat(first|apply Kd.R_alloc|apply Kd.R_drewN|apply Kd.R_drew));exact Kd.R_mono (Kd.R_far (p:=⟨go50,((ji51):Int).toNat,none⟩) (Kd.R_mono HO_176001.1 (fun k_ hk=>(⟨hk,fun e_=>hk.2.2 (by rw [e_];rfl)⟩:_∧k_≠go50))) (fun _ hk=>hk.2) (.int .i64 (Int.tmod (wrap64 ((rd y189 (ji51))+(rd x13_3 x17_4))) a1))) (fun _ hk=>⟨hk.1.1,⟨hk.1.2.1,hk.1.2.2⟩⟩)⟩,⟨by (try simp only [hl9_2]);(try simp only [hl9_3]);(with_reducible repeat(first|refine blk_drewN ?_ _|refine blk_drew ?_|refine blk_alloc ?_ _));refine blk_far ?_ qB48 _;(with_reducible repeat(first|refine blk_drewN ?_ _|refine blk_drew ?_|refine blk_alloc ?_ _));exact BK163.1⟩,⟨by (try simp only [hl9_2]);(try simp only [hl9_3]);(with_reducible repeat(first|refine blk_drewN ?_ _|refine blk_drew ?_|refine blk_alloc ?_ _));refine blk_far ?_ qB49 _;(with_reducible repeat(first|refine blk_drewN ?_ _|refine blk_drew ?_|refine blk_alloc ?_ _));exact BK175.1⟩,⟨by repeat(first|(with_reducible first|exact HB.1|apply below_alloc|apply pw_below_drewN|apply below_drew1|refine below_set ?_ GB50.1|refine below_set ?_ GE163.1|refine below_set ?_ GE175.1)|exact HB.1)⟩⟩
                                                              · rw [if_neg c53] at H
                                                                exact absurd H (by simp)
                                                            · rw [if_neg c52] at H
                                                              exact absurd H (by simp)
                                                        · rw [if_neg c48] at H
                                                          exact absurd H (by simp)
                                                      · rw [if_neg c47] at H
                                                        exact absurd H (by simp)
                                                    · rw [if_neg c46] at H
                                                      exact absurd H (by simp)
                                                  · rw [if_neg c45] at H
                                                    exact absurd H (by simp)
                                                · rw [if_neg c44] at H
                                                  have c44b0:decide (x17_4<(x13_3.length:Int))=false:=decide_eq_false c44;have c44b0_0:=c44b0
                                                  (try rw [hl9_2] at c44b0_0)
                                                  have c44b0_1:=c44b0
                                                  (try rw [hl9_3] at c44b0_1)
                                                  clear c44;have H':=qAm H;clear H;go_wp2
                                                  (try simp only [← hl9_3])
                                                  (first|go_roundg k4|((try simp only [add_plain] at *);go_roundg k4))
                                                  case measure=>have:=HK1.1;have:=HK2.1;have:=HK3.1;have:=HK4.1;omega
                                                  case rel=>exact⟨(x9_3),(x16_4),((Int.tmod (wrap64 (x14_3*t182)) a1)),(wrap64 (x15_3+1)),(x176001_3),(u176001),qB52,qB52,H',⟨by have:=HK1.1;have:=HK2.1;have:=HK3.1;have:=HK4.1;omega⟩,⟨by (try simp only [hl9_2]);(try simp only [hl9_3]);(with_reducible repeat(first|apply Kd.R_alloc|apply Kd.R_drewN|apply Kd.R_drew));exact Kd.R_mono HO_9.1 (fun _ hk=>⟨hk.2.1,hk.2.2⟩)⟩,⟨by (try simp only [hl9_2]);(try simp only [hl9_3]);(with_reducible repeat(first|apply Kd.R_alloc|apply Kd.R_drewN|apply Kd.R_drew));exact Kd.R_mono HO_16.1 (fun _ hk=>⟨hk.1,hk.2.2⟩)⟩,⟨by (try simp only [hl9_2]);(try simp only [hl9_3]);(with_reducible repeat(first|apply Kd.R_alloc|apply Kd.R_drewN|apply Kd.R_drew));exact Kd.R_mono HO_176001.1 (fun _ hk=>⟨hk.1,hk.2.2⟩)⟩,⟨by (try simp only [hl9_2]);(try simp only [hl9_3]);(with_reducible repeat(first|refine blk_drewN ?_ _|refine blk_drew ?_|refine blk_alloc ?_ _));exact BK163.1⟩,⟨by (try simp only [hl9_2]);(try simp only [hl9_3]);(with_reducible repeat(first|refine blk_drewN ?_ _|refine blk_drew ?_|refine blk_alloc ?_ _));exact BK175.1⟩,⟨by repeat(first|(with_reducible first|exact HB.1|apply below_alloc|apply pw_below_drewN|apply below_drew1|refine below_set ?_ GE163.1|refine below_set ?_ GE175.1)|exact HB.1)⟩⟩
                                          · rw [if_neg c39] at H
                                            exact absurd H (by simp)
                                        · rw [if_neg c38] at H
                                          exact absurd H (by simp)
                                    · rw [if_neg c34] at H
                                      exact absurd H (by simp)
                                  · rw [if_neg c33] at H
                                    exact absurd H (by simp)
                                · rw [if_neg c32] at H
                                  exact absurd H (by simp)
                            · rw [if_neg c30] at H
                              have c30b0:decide (x15_3<(x9_3.length:Int))=false:=decide_eq_false c30;have c30b0_0:=c30b0
                              (try rw [hl9_2] at c30b0_0)
                              have c30b0_1:=c30b0
                              (try rw [hl9_3] at c30b0_1)
                              clear c30;have H':=qAm H;clear H;go_wp2;try simp only [Act.put,qSa,qSc,qSb]
                              go_loopg [18] k3 (fun kq v18 w'=>∃(x9_4:List Int) (x13_4:List Int) (x18_4:Int) (x176001_4:List Int) (u176001:Value),v18=.int .i64 x18_4∧Aside0 (spec_CycloAtResidues.l4 kq a1 l2 x9_4 x12_2 x13_4 x14_3 x18_4 t171 x176001_4=some (r1,r2,r3))∧Aside0 (kq≤k3)∧Aside0 (Kd.R (Kd.int .i64) 2 w' w.heap.size (fun k_=>some k_≠(u13:Value).ownBlock∧some k_≠(u176001:Value).ownBlock) (.slice Ao12 x9_3.length co12) x9_4)∧Aside0 (Kd.R (Kd.int .i64) 2 w' w.heap.size (fun k_=>some k_≠((.slice Ao12 x9_3.length co12):Value).ownBlock∧some k_≠(u176001:Value).ownBlock) u13 x13_4)∧Aside0 (Kd.R (Kd.int .i64) 2 w' w.heap.size (fun k_=>some k_≠((.slice Ao12 x9_3.length co12):Value).ownBlock∧some k_≠(u13:Value).ownBlock) u176001 x176001_4)∧Aside0 (w'.heap[gb163]? =some (.cells #[.int .i64 x164000_1,(.slice none 0 0)] 28 (0,0)))∧Aside0 (w'.heap[gb175]? =some (.cells #[.int .i64 t171,u176001] 28 (0,0)))∧Aside0 (Below w.heap.size w w'))
                              case atStart=>exact⟨(x9_3),(x13_3),(0),(x176001_3),(u176001),qB52,H',⟨Nat.le_refl _⟩,⟨by (try simp only [hl9_2]);(try simp only [hl9_3]);(with_reducible repeat(first|apply Kd.R_alloc|apply Kd.R_drewN|apply Kd.R_drew));exact HO_9.1⟩,⟨by (try simp only [hl9_2]);(try simp only [hl9_3]);(with_reducible repeat(first|apply Kd.R_alloc|apply Kd.R_drewN|apply Kd.R_drew));exact HO_13.1⟩,⟨by (try simp only [hl9_2]);(try simp only [hl9_3]);(with_reducible repeat(first|apply Kd.R_alloc|apply Kd.R_drewN|apply Kd.R_drew));exact HO_176001.1⟩,⟨by (try simp only [hl9_2]);(try simp only [hl9_3]);(with_reducible repeat(first|refine blk_drewN ?_ _|refine blk_drew ?_|refine blk_alloc ?_ _));exact BK163.1⟩,⟨by (try simp only [hl9_2]);(try simp only [hl9_3]);(with_reducible repeat(first|refine blk_drewN ?_ _|refine blk_drew ?_|refine blk_alloc ?_ _));exact BK175.1⟩,⟨by repeat(first|(with_reducible first|exact HB.1|apply below_alloc|apply pw_below_drewN|apply below_drew1|refine below_set ?_ GE163.1|refine below_set ?_ GE175.1)|exact HB.1)⟩⟩
                              case round=>
                                clear H';try clear p1
                                try clear q1
                                try clear hx1
                                try clear c2
                                try clear p2
                                try clear c3
                                try clear c4
                                try clear c5
                                try clear p5
                                try clear q5
                                try clear hx5
                                try clear hf5
                                try clear p6
                                try clear p16
                                try clear q16
                                try clear hx16
                                try clear p17
                                try clear q17
                                try clear hx17
                                try clear p18
                                try clear q18
                                try clear hx18
                                try clear p19
                                try clear q19
                                try clear hx19
                                try clear c21
                                try clear c24
                                try clear c24b0
                                try clear c25
                                try clear c25b0
                                try clear c26
                                try clear c26b0
                                try clear c29
                                try clear c30
                                try clear c30b0
                                try clear c31
                                try clear c31b0
                                try clear c31b1
                                try clear c32
                                try clear c32b0
                                try clear c33
                                try clear c33b0
                                try clear c34
                                try clear c34b0
                                try clear c36
                                try clear c36b0
                                try clear c36b1
                                try clear c38
                                try clear c38b0
                                try clear c38b1
                                try clear c39
                                try clear c39b0
                                try clear c39b1
                                try clear c44
                                try clear c44b0
                                try clear c45
                                try clear c45b0
                                try clear c46
                                try clear c46b0
                                try clear c47
                                try clear c47b0
                                try clear c48
                                try clear c48b0
                                try clear c49
                                try clear c49b0
                                try clear c49b1
                                try clear p50
                                try clear q50
                                try clear hx50
                                try clear hf50
                                try clear c52
                                try clear c52b0
                                try clear c53
                                try clear c53b0
                                try clear p54
                                try clear q54
                                try clear hx54
                                try clear hf54
                                try clear hcz17_0
                                try clear hcz17_1
                                try clear hcz22_0
                                try clear hcz22_1
                                try clear hfz17_0
                                try clear hfz17_1
                                try clear hfz22_0
                                try clear hfz22_1
                                try clear hx169_0
                                try clear hx179_0
                                try clear hx180_0
                                try clear hx181_0
                                try clear hx186_0
                                try clear hx187_0
                                try clear hx188_0
                                try clear hx190_0
                                try clear hx191_0
                                try clear hx50_0
                                try clear hx54_0
                                try clear p1
                                try clear p16
                                try clear p169
                                try clear p17
                                try clear p179
                                try clear p180
                                try clear p181
                                try clear p186
                                try clear p187
                                try clear p188
                                try clear p190
                                try clear p191
                                try clear p2
                                try clear p50
                                try clear p54
                                try clear p6
                                try clear q1
                                try clear q16
                                try clear q169
                                try clear q17
                                try clear q179
                                try clear q180
                                try clear q181
                                try clear q186
                                try clear q187
                                try clear q188
                                try clear q190
                                try clear q191
                                try clear q50
                                try clear q54
                                obtain⟨x9_4,x13_4,x18_4,x176001_4,u176001,rfl,HA,HK4,HO_9,HO_13,HO_176001,BK163,BK175,HB⟩:=hrel;have hl9_4:=(Kd.R_reads' HO_9.1).1;rw [hl9_4] at HO_9
                                (try simp only [hl9_4])
                                (try simp only [hl9_4] at BK163)
                                (try simp only [hl9_4] at BK175)
                                (try simp only [hl9_4] at HO_13)
                                (try simp only [hl9_4] at HO_176001)
                                cases gk with
                                |zero=>exact absurd HA.1 (by simp [spec_CycloAtResidues.l4])
                                |succ k4=>
                                  have H:=HA.1;clear HA;simp only [spec_CycloAtResidues.l4] at H
                                  by_cases c61:x18_4<(x13_4.length:Int)
                                  · rw [if_pos c61] at H
                                    have c61b0:decide (x18_4<(x13_4.length:Int))=true:=decide_eq_true c61;clear c61
                                    by_cases c62:0≤x18_4
                                    · rw [if_pos c62] at H
                                      have c62b0:decide (0≤x18_4)=true:=decide_eq_true c62;clear c62
                                      by_cases c63:x18_4<(x176001_4.length:Int)
                                      · rw [if_pos c63] at H
                                        have c63b0:decide (x18_4<(x176001_4.length:Int))=true:=decide_eq_true c63;clear c63
                                        by_cases c64:a1=0
                                        · rw [if_pos c64] at H
                                          exact absurd H (by simp)
                                        · rw [if_neg c64] at H
                                          have c64b0:(a1==0)=false:=beq_eq_false_iff_ne.mpr c64;have c64b1:(a1 !=0)=true:=bne_iff_ne.mpr c64;obtain⟨y195,hy195⟩:∃y_:List Int,y_=(x176001_4.set (x18_4:Int).toNat (Int.tmod (wrap64 ((rd x176001_4 x18_4)+(wrap64 (x14_3*(rd x13_4 x18_4))))) a1)):=⟨_,rfl⟩
                                          replace H:(spec_CycloAtResidues.l4 k4 a1 l2 x9_4 x12_2 x13_4 x14_3 (wrap64 (x18_4+1)) t171 y195)=some (r1,r2,r3):=by first|(rw [hy195];with_reducible exact H)|(have H2_:=(Option.bind_some _ _).symm.trans H;rw [hy195];with_reducible exact H2_)|(have H2_:=(Option.bind_some _ _).symm.trans H;with_reducible exact H2_)|with_reducible exact H|(rw [hy195];exact H)|exact H
                                          have Ny195:=qAm hy195;clear hy195;have H':=qAm H;clear H;obtain⟨Ao66,co66,eo66⟩:=Kd.R_slice HO_13.1;subst eo66;try go_wp2
                                          have n0_:=qAm (Kd.R_drew HO_9.1);have n1_:=qAm (Kd.R_drew HO_13.1);have n2_:=qAm (Kd.R_drew HO_176001.1);have n3_:=qAm (blk_drew BK163.1);have n4_:=qAm (blk_drew BK175.1);have n5_:=qAm (below_drew1 HB.1);clear HO_9 HO_13 HO_176001 BK163 BK175 HB;have HO_9:=n0_;have HO_13:=n1_;have HO_176001:=n2_;have BK163:=n3_;have BK175:=n4_;have HB:=n5_;clear n0_ n1_ n2_ n3_ n4_ n5_;obtain⟨Ao68,co68,eo68⟩:=Kd.R_slice HO_176001.1
                                          (first|subst eo68|(injection eo68 with f1_ f2_ f3_;have f4_:=f1_.symm;have f5_:=f3_.symm;clear f1_ f2_ f3_;subst f4_;subst f5_))
                                          have p193:0≤(x18_4:Int):=of_decide_eq_true qB51;have q193:x18_4<(x176001_4.length:Int):=of_decide_eq_true qB51;obtain⟨ad193,e193,hx193_0⟩:=Kd.at_int (Kd.R_reads' HO_176001.1).2.2 x18_4 p193 q193;cases e193
                                          replace p193:=eq_true p193;replace q193:=eq_true q193;have p194:0≤(x18_4:Int):=of_decide_eq_true qB51;have q194:x18_4<(x13_4.length:Int):=of_decide_eq_true qB51;obtain⟨ad194,e194,hx194_0⟩:=Kd.at_int (Kd.R_reads' HO_13.1).2.2 x18_4 p194 q194;cases e194
                                          replace p194:=eq_true p194;replace q194:=eq_true q194;have p65:0≤(x18_4:Int):=of_decide_eq_true qB51;have q65:(x18_4:Int)<((x176001_4.length:Int):Int):=of_decide_eq_true qB51;obtain⟨go65,co65,eo65,gb65,gl65,cl65,HG65⟩:=Kd.R_form HO_176001.1 (by omega)
                                          (first|cases eo65|(injection eo65 with ea_ en_ ec_;(first|subst ea_|(injection ea_ with ea_;subst ea_));subst ec_;clear en_))
                                          have GB65:=qAm gb65;have GG65:=qAm HG65;clear gb65 gl65 HG65
                                          (first|simp only [add_plain] at hx193_0|skip)
                                          obtain⟨hx65_0,hf65_0⟩:=Kd.R_celln 0 HO_176001.1 (x18_4:Int) p65 q65;replace p65:=eq_true p65;replace q65:=eq_true q65;have HP69:=Kd.R_putn HO_176001.1 (x18_4:Int) (Int.tmod (wrap64 ((rd x176001_4 x18_4)+(wrap64 (x14_3*(rd x13_4 x18_4))))) a1);rw [← Ny195.1] at HP69;have HQ69:=qAm HP69;clear HP69;refine start_ (n:=19) (S:=fun w'=>w'.cell? ⟨gb175,0,none⟩=some (.int .i64 t171)∧w'.cell? ⟨gb175,1,none⟩=some (.slice (some ⟨go65,0,none⟩) x176001_4.length co68)∧w'.cell? ⟨go65,(x18_4).toNat,none⟩=some (.int .i64 (rd x176001_4 x18_4))∧w'.cell? (ad194.add (x18_4).toNat)=some (.int .i64 (rd x13_4 x18_4))) (ds:=[18]) #[false,false,false,false,false,false,false,false,false,false,false,false,false,false,false,false,false,false,false] (by kernel_rfl) rfl rfl ⟨(blk_cell BK175.1 0).trans rfl,(blk_cell BK175.1 1).trans rfl,hx193_0,hx194_0⟩ (fun hHeld=>?_);refine with_tabW spec_CycloAtResidues.tab34 spec_CycloAtResidues.bits34 (fun HT_ HW_=>?_);generalize wr.drew=w67 at HO_9 HO_13 HO_176001 BK163 BK175 HB GG65 HQ69 hf65_0 hx193_0 hx194_0 hx65_0 hHeld ⊢;refine pure_ (i:=0) (N:=some 146) (v:=?_) (a':=?_) #[true,false,false,false,false,false,false,false,false,false,false,false,false,false,false,false,false,false,false] rfl rfl (any_of HT_.1 (by kernel_rfl)) (fun _ _ _ h=>h) (Or.inl ⟨by rfl,?_⟩) ?_ ?_;rotate_left
                                          · intro w'
                                            go_simp;with_reducible rfl
                                          rotate_left
                                          · simp only [Act.put,qSa,qSb,qSc,i64_w,i32_w]
                                            rfl
                                          refine pure_ (i:=2) (N:=some 148) (v:=?_) (a':=?_) #[true,false,true,false,false,false,false,false,false,false,false,false,false,false,false,false,false,false,false] rfl rfl (any_of HT_.1 (by kernel_rfl)) (fun _ _ _ h=>h) (Or.inl ⟨by rfl,?_⟩) ?_ ?_;rotate_left
                                          · intro w'
                                            go_simp;with_reducible rfl
                                          rotate_left
                                          · simp only [Act.put,qSa,qSb,qSc,i64_w,i32_w]
                                            rfl
                                          refine pure_ (i:=3) (N:=some 149) (v:=?_) (a':=?_) #[true,false,true,true,false,false,false,false,false,false,false,false,false,false,false,false,false,false,false] rfl rfl (any_of HT_.1 (by kernel_rfl)) (fun _ _ _ h=>h) (Or.inl ⟨by rfl,?_⟩) ?_ ?_;rotate_left
                                          · intro w'
                                            go_simp;with_reducible rfl
                                          rotate_left
                                          · simp only [Act.put,qSa,qSb,qSc,i64_w,i32_w]
                                            rfl
                                          refine pure_ (i:=5) (N:=some 151) (v:=?_) (a':=?_) #[true,false,true,true,false,true,false,false,false,false,false,false,false,false,false,false,false,false,false] rfl rfl (any_of HT_.1 (by kernel_rfl)) (fun _ _ _ h=>h) (Or.inl ⟨by rfl,?_⟩) ?_ ?_;rotate_left
                                          · intro w'
                                            go_simp;with_reducible rfl
                                          rotate_left
                                          · simp only [Act.put,qSa,qSb,qSc,i64_w,i32_w]
                                            rfl
                                          refine pure_ (i:=8) (N:=some 154) (v:=?_) (a':=?_) #[true,false,true,true,false,true,false,false,true,false,false,false,false,false,false,false,false,false,false] rfl rfl (any_of HT_.1 (by kernel_rfl)) (fun _ _ _ h=>h) (Or.inl ⟨by rfl,?_⟩) ?_ ?_;rotate_left
                                          · intro w'
                                            go_simp;with_reducible rfl
                                          rotate_left
                                          · simp only [Act.put,qSa,qSb,qSc,i64_w,i32_w]
                                            rfl
                                          refine pure_ (i:=9) (N:=some 155) (v:=?_) (a':=?_) #[true,false,true,true,false,true,false,false,true,true,false,false,false,false,false,false,false,false,false] rfl rfl (any_of HT_.1 (by kernel_rfl)) (fun _ _ _ h=>h) (Or.inl ⟨by rfl,?_⟩) ?_ ?_;rotate_left
                                          · intro w'
                                            go_simp;with_reducible rfl
                                          rotate_left
                                          · simp only [Act.put,qSa,qSb,qSc,i64_w,i32_w]
                                            rfl
                                          refine pure_ (i:=10) (N:=some 156) (v:=?_) (a':=?_) #[true,false,true,true,false,true,false,false,true,true,true,false,false,false,false,false,false,false,false] rfl rfl (any_of HT_.1 (by kernel_rfl)) (fun _ _ _ h=>h) (Or.inl ⟨by rfl,?_⟩) ?_ ?_;rotate_left
                                          · intro w'
                                            go_simp;with_reducible rfl
                                          rotate_left
                                          · simp only [Act.put,qSa,qSb,qSc,i64_w,i32_w]
                                            rfl
                                          refine pure_ (i:=11) (N:=some 157) (v:=?_) (a':=?_) #[true,false,true,true,false,true,false,false,true,true,true,true,false,false,false,false,false,false,false] rfl rfl (any_of HT_.1 (by kernel_rfl)) (fun _ _ _ h=>h) (Or.inl ⟨by rfl,?_⟩) ?_ ?_;rotate_left
                                          · intro w'
                                            go_simp;with_reducible rfl
                                          rotate_left
                                          · simp only [Act.put,qSa,qSb,qSc,i64_w,i32_w]
                                            rfl
                                          refine pure_ (i:=15) (N:=some 161) (v:=?_) (a':=?_) #[true,false,true,true,false,true,false,false,true,true,true,true,false,false,false,true,false,false,false] rfl rfl (any_of HT_.1 (by kernel_rfl)) (fun _ _ _ h=>h) (Or.inl ⟨by rfl,?_⟩) ?_ ?_;rotate_left
                                          · intro w'
                                            go_simp;with_reducible rfl
                                          rotate_left
                                          · simp only [Act.put,qSa,qSb,qSc,i64_w,i32_w]
                                            rfl
                                          refine take_ (i:=1) (N:=some 147) (v:=?_) (a':=?_) #[true,true,true,true,false,true,false,false,true,true,true,true,false,false,false,true,false,false,false] rfl rfl (take_ofW HT_.1 HW_.1 (by kernel_rfl)) (fun _ _ _ h=>h) (Or.inl ⟨by rfl,?_⟩) hHeld ?_ ?_;rotate_left
                                          · rintro w' ⟨s0,s1,s2,s3⟩
                                            go_simp;with_reducible rfl
                                          rotate_left
                                          · simp only [Act.put,qSa,qSb,qSc,i64_w,i32_w]
                                            rfl
                                          refine take_ (i:=4) (N:=some 150) (v:=?_) (a':=?_) #[true,true,true,true,true,true,false,false,true,true,true,true,false,false,false,true,false,false,false] rfl rfl (take_ofW HT_.1 HW_.1 (by kernel_rfl)) (fun _ _ _ h=>h) (Or.inl ⟨by rfl,?_⟩) hHeld ?_ ?_;rotate_left
                                          · rintro w' ⟨s0,s1,s2,s3⟩
                                            go_simp;with_reducible rfl
                                          rotate_left
                                          · simp only [Act.put,qSa,qSb,qSc,i64_w,i32_w]
                                            rfl
                                          refine pure_ (i:=6) (N:=some 152) (v:=?_) (a':=?_) #[true,true,true,true,true,true,true,false,true,true,true,true,false,false,false,true,false,false,false] rfl rfl (any_of HT_.1 (by kernel_rfl)) (fun _ _ _ h=>h) (Or.inl ⟨by rfl,?_⟩) ?_ ?_;rotate_left
                                          · intro w'
                                            go_simp;with_reducible rfl
                                          rotate_left
                                          · simp only [Act.put,qSa,qSb,qSc,i64_w,i32_w]
                                            rfl
                                          refine take_ (i:=7) (N:=some 153) (v:=?_) (a':=?_) #[true,true,true,true,true,true,true,true,true,true,true,true,false,false,false,true,false,false,false] rfl rfl (take_ofW HT_.1 HW_.1 (by kernel_rfl)) (fun _ _ _ h=>h) (Or.inl ⟨by rfl,?_⟩) hHeld ?_ ?_;rotate_left
                                          · rintro w' ⟨s0,s1,s2,s3⟩
                                            go_simp;with_reducible rfl
                                          rotate_left
                                          · simp only [Act.put,qSa,qSb,qSc,i64_w,i32_w]
                                            rfl
                                          refine take_ (i:=12) (N:=some 158) (v:=?_) (a':=?_) #[true,true,true,true,true,true,true,true,true,true,true,true,true,false,false,true,false,false,false] rfl rfl (take_ofW HT_.1 HW_.1 (by kernel_rfl)) (fun _ _ _ h=>h) (Or.inl ⟨by rfl,?_⟩) hHeld ?_ ?_;rotate_left
                                          · rintro w' ⟨s0,s1,s2,s3⟩
                                            go_simp;with_reducible rfl
                                          rotate_left
                                          · simp only [Act.put,qSa,qSb,qSc,i64_w,i32_w]
                                            rfl
                                          refine pure_ (i:=13) (N:=some 159) (v:=?_) (a':=?_) #[true,true,true,true,true,true,true,true,true,true,true,true,true,true,false,true,false,false,false] rfl rfl (any_of HT_.1 (by kernel_rfl)) (fun _ _ _ h=>h) (Or.inl ⟨by rfl,?_⟩) ?_ ?_;rotate_left
                                          · intro w'
                                            go_simp;with_reducible rfl
                                          rotate_left
                                          · simp only [Act.put,qSa,qSb,qSc,i64_w,i32_w]
                                            rfl
                                          refine pure_ (i:=14) (N:=some 160) (v:=?_) (a':=?_) #[true,true,true,true,true,true,true,true,true,true,true,true,true,true,true,true,false,false,false] rfl rfl (any_of HT_.1 (by kernel_rfl)) (fun _ _ _ h=>h) (Or.inl ⟨by rfl,?_⟩) ?_ ?_;rotate_left
                                          · intro w'
                                            go_simp;with_reducible rfl
                                          rotate_left
                                          · simp only [Act.put,qSa,qSb,qSc,i64_w,i32_w]
                                            rfl
                                          refine pure_ (i:=16) (N:=some 162) (v:=?_) (a':=?_) #[true,true,true,true,true,true,true,true,true,true,true,true,true,true,true,true,true,false,false] rfl rfl (any_of HT_.1 (by kernel_rfl)) (fun _ _ _ h=>h) (Or.inl ⟨by rfl,?_⟩) ?_ ?_;rotate_left
                                          · intro w'
                                            go_simp;with_reducible rfl
                                          rotate_left
                                          · simp only [Act.put,qSa,qSb,qSc,i64_w,i32_w]
                                            rfl
                                          refine pure_ (i:=17) (N:=some 163) (v:=?_) (a':=?_) #[true,true,true,true,true,true,true,true,true,true,true,true,true,true,true,true,true,true,false] rfl rfl (any_of HT_.1 (by kernel_rfl)) (fun _ _ _ h=>h) (Or.inl ⟨by rfl,?_⟩) ?_ ?_;rotate_left
                                          · intro w'
                                            go_simp;with_reducible rfl
                                          rotate_left
                                          · simp only [Act.put,qSa,qSb,qSc,i64_w,i32_w]
                                            rfl
                                          refine last_ (i:=18) (N:=none) #[true,true,true,true,true,true,true,true,true,true,true,true,true,true,true,true,true,true,true] rfl rfl (one_of HT_.1 (by kernel_rfl)) (by decide) (fun K hK=>?_);refine skip_ (w1:=?_) (by rfl) rfl ?_ ?_;rotate_left
                                          · go_simp
                                            rfl
                                          refine hK.out _ _ ?_;clear hK K;refine done_ (done_of HT_.1 (by kernel_rfl)) ?_;try go_wp2
                                          (try simp only [← hl9_4])
                                          (first|go_roundg k4|((try simp only [add_plain] at *);go_roundg k4))
                                          case measure=>have:=HK1.1;have:=HK2.1;have:=HK3.1;have:=HK4.1;omega
                                          case rel=>exact⟨(x9_4),(x13_4),(wrap64 (x18_4+1)),(y195),(.slice (some ⟨go65,0,none⟩) x176001_4.length co68),qB52,H',⟨by have:=HK1.1;have:=HK2.1;have:=HK3.1;have:=HK4.1;omega⟩,⟨by (try simp only [hl9_2]);(try simp only [hl9_3]);(try simp only [hl9_4]);(with_reducible repeat(first|apply Kd.R_alloc|apply Kd.R_drewN|apply Kd.R_drew));exact Kd.R_mono (Kd.R_far (p:=⟨go65,(x18_4:Int).toNat,none⟩) (Kd.R_mono HO_9.1 (fun k_ hk=>(⟨hk,fun e_=>hk.2 (by rw [e_];rfl)⟩:_∧k_≠go65))) (fun _ hk=>hk.2) (.int .i64 (Int.tmod (wrap64 ((rd x176001_4 x18_4)+(wrap64 (x14_3*(rd x13_4 x18_4))))) a1))) (fun _ hk=>⟨hk.1.1,hk.1.2⟩)⟩,⟨by (try simp only [hl9_2]);(try simp only [hl9_3]);(try simp only [hl9_4]);(with_reducible repeat(first|apply Kd.R_alloc|apply Kd.R_drewN|apply Kd.R_drew));exact Kd.R_mono (Kd.R_far (p:=⟨go65,(x18_4:Int).toNat,none⟩) (Kd.R_mono HO_13.1 (fun k_ hk=>(⟨hk,fun e_=>hk.2 (by rw [e_];rfl)⟩:_∧k_≠go65))) (fun _ hk=>hk.2) (.int .i64 (Int.tmod (wrap64 ((rd x176001_4 x18_4)+(wrap64 (x14_3*(rd x13_4 x18_4))))) a1))) (fun _ hk=>⟨hk.1.1,hk.1.2⟩)⟩,⟨by (try simp only [hl9_2]);(try simp only [hl9_3]);(try simp only [hl9_4]);(with_reducible repeat(first|apply Kd.R_alloc|apply Kd.R_drewN|apply Kd.R_drew));exact HQ69.1⟩,⟨by (try simp only [hl9_2]);(try simp only [hl9_3]);(try simp only [hl9_4]);(with_reducible repeat(first|refine blk_drewN ?_ _|refine blk_drew ?_|refine blk_alloc ?_ _));refine blk_far ?_ (by have h_:=Kd.R_ne HO_176001.1 BK163.1 (by decide);intro e_;exact h_ (by rw [e_];rfl)) _;(with_reducible repeat(first|refine blk_drewN ?_ _|refine blk_drew ?_|refine blk_alloc ?_ _));exact BK163.1⟩,⟨by (try simp only [hl9_2]);(try simp only [hl9_3]);(try simp only [hl9_4]);(with_reducible repeat(first|refine blk_drewN ?_ _|refine blk_drew ?_|refine blk_alloc ?_ _));refine blk_far ?_ (by have h_:=Kd.R_ne HO_176001.1 BK175.1 (by decide);intro e_;exact h_ (by rw [e_];rfl)) _;(with_reducible repeat(first|refine blk_drewN ?_ _|refine blk_drew ?_|refine blk_alloc ?_ _));exact BK175.1⟩,⟨by repeat(first|(with_reducible first|exact HB.1|apply below_alloc|apply pw_below_drewN|apply below_drew1|refine below_set ?_ GB65.1|refine below_set ?_ GE163.1|refine below_set ?_ GE175.1)|exact HB.1)⟩⟩
                                      · rw [if_neg c63] at H
                                        exact absurd H (by simp)
                                    · rw [if_neg c62] at H
                                      exact absurd H (by simp)
                                  · rw [if_neg c61] at H
                                    have c61b0:decide (x18_4<(x13_4.length:Int))=false:=decide_eq_false c61;have c61b0_0:=c61b0
                                    (try rw [hl9_2] at c61b0_0)
                                    have c61b0_1:=c61b0
                                    (try rw [hl9_3] at c61b0_1)
                                    have c61b0_2:=c61b0
                                    (try rw [hl9_4] at c61b0_2)
                                    clear c61;have H':=qAm H;clear H;obtain⟨Ao70,co70,eo70⟩:=Kd.R_slice HO_13.1;subst eo70;go_wp2
                                    (try simp only [← hl9_2,← hl9_3,← hl9_4])
                                    (first|go_roundg k4|((try simp only [add_plain] at *);go_roundg k4))
                                    case measure=>have:=HK1.1;have:=HK2.1;have:=HK3.1;have:=HK4.1;omega
                                    case rel=>exact⟨(x9_4),(wrap64 (x12_2+1)),(x176001_4),(u176001),qB52,H',⟨by have:=HK1.1;have:=HK2.1;have:=HK3.1;have:=HK4.1;omega⟩,⟨by (try simp only [hl9_2]);(try simp only [hl9_3]);(try simp only [hl9_4]);(with_reducible repeat(first|apply Kd.R_alloc|apply Kd.R_drewN|apply Kd.R_drew));exact Kd.R_mono HO_9.1 (fun _ hk=>hk.2)⟩,⟨by (try simp only [hl9_2]);(try simp only [hl9_3]);(try simp only [hl9_4]);(with_reducible repeat(first|apply Kd.R_alloc|apply Kd.R_drewN|apply Kd.R_drew));exact Kd.R_mono HO_176001.1 (fun _ hk=>hk.1)⟩,⟨by (try simp only [hl9_2]);(try simp only [hl9_3]);(try simp only [hl9_4]);(with_reducible repeat(first|refine blk_drewN ?_ _|refine blk_drew ?_|refine blk_alloc ?_ _));exact BK163.1⟩,⟨by (try simp only [hl9_2]);(try simp only [hl9_3]);(try simp only [hl9_4]);(with_reducible repeat(first|refine blk_drewN ?_ _|refine blk_drew ?_|refine blk_alloc ?_ _));exact BK175.1⟩,⟨by repeat(first|(with_reducible first|exact HB.1|apply below_alloc|apply pw_below_drewN|apply below_drew1|refine below_set ?_ GE163.1|refine below_set ?_ GE175.1)|exact HB.1)⟩⟩
                      · rw [if_neg c26] at H
                        exact absurd H (by simp)
                    · rw [if_neg c25] at H
                      exact absurd H (by simp)
                  · rw [if_neg c24] at H
                    have c24b0:decide (x12_2<(x9_2.length:Int))=false:=decide_eq_false c24;have c24b0_0:=c24b0
                    (try rw [hl9_2] at c24b0_0)
                    clear c24;simp only [Option.some.injEq,Prod.mk.injEq] at H;obtain⟨rfl,rfl,rfl⟩:=H;have hnb71:=NB175_163.1;have hnc71:=NB163_175.1;have hcz72_0:wr.cell? ⟨gb175,0,none⟩=some (.int .i64 t171):=(blk_cell BK175.1 0).trans rfl;have hcz72_1:wr.cell? ⟨gb175,1,none⟩=some (u176001):=(blk_cell BK175.1 1).trans rfl;have hfz72_0:=blk_frozen BK175.1 0;have hfz72_1:=blk_frozen BK175.1 1;have hcz73_0:wr.cell? ⟨gb163,0,none⟩=some (.int .i64 x164000_1):=(blk_cell BK163.1 0).trans rfl;have hcz73_1:wr.cell? ⟨gb163,1,none⟩=some (.slice none 0 0):=(blk_cell BK163.1 1).trans rfl;have hfz73_0:=blk_frozen BK163.1 0;have hfz73_1:=blk_frozen BK163.1 1;obtain⟨Ao74,co74,eo74⟩:=Kd.R_slice HO_176001.1;subst eo74;go_wp2;refine bodyPost_ret (results_ct rfl _ _ gb163 28 #[.int .i64 t171,.slice Ao74 x176001_2.length co74] (0,0) _ rfl (by (with_reducible repeat(first|refine blk_drewN ?_ _|refine blk_drew ?_|refine blk_alloc ?_ _));refine blk_put (cs:=#[.int .i64 t171,.slice none 0 0]) ?_ 1 _ rfl;(with_reducible repeat(first|refine blk_drewN ?_ _|refine blk_drew ?_|refine blk_alloc ?_ _));refine blk_put (cs:=#[.int .i64 x164000_1,.slice none 0 0]) ?_ 0 _ rfl;(with_reducible repeat(first|refine blk_drewN ?_ _|refine blk_drew ?_|refine blk_alloc ?_ _));exact BK163.1) Try.underlying28 rfl (by kernel_rfl)) rfl ?_;exact⟨_,by first|rfl|(simp [errW_none,errW_some] <;> rfl)|(simp [*,errW_none,errW_some] <;> rfl),by (with_reducible repeat(first|apply Kd.R_alloc|apply Kd.R_drewN|apply Kd.R_drew));exact Kd.R_mono (Kd.R_far (p:=⟨gb163,1,none⟩) (Kd.R_far (p:=⟨gb163,0,none⟩) (Kd.R_types HO_176001.1 BK163.1 (by decide)) (fun _ hk=>hk.2) (.int .i64 t171)) (fun _ hk=>hk.2) (.slice Ao74 x176001_2.length co74)) (fun _ hk=>trivial),by repeat(first|(with_reducible first|exact HB.1|apply below_alloc|apply pw_below_drewN|apply below_drew1|refine below_set ?_ GE163.1|refine below_set ?_ GE175.1)|exact HB.1)⟩
      · rw [if_neg c9] at H
        have c9b0:((l2.length:Int)==(t166.length:Int))=false:=beq_eq_false_iff_ne.mpr c9;have c9b1:((l2.length:Int) !=(t166.length:Int))=true:=bne_iff_ne.mpr c9;have c9b2:(l2.length==t166.length)=false:=by first|simpa using c9|(simp at c9 ⊢;omega)
        simp only [Option.some.injEq,Prod.mk.injEq] at H;obtain⟨rfl,rfl,rfl⟩:=H;go_enter Try.func29,Try.ntmps29;go_wp2_with (first|((with_reducible refine gate_dst (N:=6) rfl ?_);refine box_event ?hg (N:=6) ?hd (cs:=#[.int .i64 0,.slice none 0 0]) (t:=28) ?hr ?_;(case hd=>rfl);(case hg=>rfl);(case hr=>first|(go_simp;done)|(go_simp;rfl));intro gb163 hg w75 hbox hb;have n0_:=qAm (below_step qB18 hb);have n1_:=qAm (hbox);have n2_:=qAm ((by rw [hg];exact(below_size qB18):w.heap.size≤gb163));have n3_:=qAm ((by rw [hg];exact(below_size qB18):w.heap.size≤gb163));clear HB;have HB:=n0_;have BK163:=n1_;have GW163:=n2_;have GE163:=n3_;clear n0_ n1_ n2_ n3_;clear hb hbox hg)|((with_reducible refine gate_callee (f:=55) rfl ?_);refine goesL_ (some 21) rfl rfl Try.func55 (by kernel_rfl) rfl #[.int .i64 a0,.int .i64 a1] rfl qB17 ?_;(with_reducible refine(spec_l07Code.calls k a0 a1 t164 _ A4.1).mono ?_);rintro e w' ⟨rfl,⟨nd,rfl⟩⟩;refine⟨_,rfl,?_⟩;(try(rw [drewN_self w75];generalize hq_:World.drewN w75 _=w75;have n0_:Aside0 (w75.heap[gb163]? =some (.cells #[.int .i64 0,.slice none 0 0] 28 (0,0))):=⟨by rw [← hq_];exact qB22⟩;have n1_:Aside0 (Below w.heap.size w w75):=⟨by rw [← hq_];exact qB14⟩;clear BK163 HB hq_;have BK163:=n0_;have HB:=n1_;clear n0_ n1_)))|((with_reducible refine gate_callee (f:=56) rfl ?_);refine goesL_ (some 28) rfl rfl Try.func56 (by kernel_rfl) rfl #[.int .i64 a0,.int .i64 a1] rfl qB17 ?_;(with_reducible refine(spec_l07Fully.calls a0 a1 true _ A6.1).mono ?_);rintro e w' ⟨rfl,⟨nd,rfl⟩⟩;refine⟨_,rfl,?_⟩;(try(rw [drewN_self w75];generalize hq_:World.drewN w75 _=w75;have n0_:Aside0 (w75.heap[gb163]? =some (.cells #[.int .i64 0,.slice none 0 0] 28 (0,0))):=⟨by rw [← hq_];exact qB22⟩;have n1_:Aside0 (Below w.heap.size w w75):=⟨by rw [← hq_];exact qB14⟩;clear BK163 HB hq_;have BK163:=n0_;have HB:=n1_;clear n0_ n1_)))|((with_reducible refine gate_callee (f:=57) rfl ?_);refine goesL_ (some 33) rfl rfl Try.func57 (by kernel_rfl) rfl #[.int .i64 a0,.int .i64 a1] rfl qB17 ?_;(with_reducible refine(spec_l07Roots.calls k a0 a1 t166 _ A8.1).mono ?_);rintro e w76 ⟨v167,rfl,ho0,hb⟩;refine⟨_,rfl,?_⟩;have n0_:=qAm (Kd.R_lower ho0 (below_size qB14));have n1_:=qAm (blk_below (g:=gb163) (o:=.cells #[.int .i64 0,.slice none 0 0] 28 (0,0)) qB22 hb);have n2_:=qAm (below_step qB14 hb);clear BK163;clear HB;have HO168:=n0_;have BK163:=n1_;have HB:=n2_;clear n0_ n1_ n2_;(try clear hb);(try clear hb2);(try clear hk);(try clear hi);(try clear ho0);obtain⟨Ao77,co77,eo77⟩:=Kd.R_slice HO168.1;subst eo77;have hcz78_0:w76.cell? ⟨gb163,0,none⟩=some (.int .i64 0):=(blk_cell BK163.1 0).trans rfl;have hcz78_1:w76.cell? ⟨gb163,1,none⟩=some (.slice none 0 0):=(blk_cell BK163.1 1).trans rfl;have hfz78_0:=blk_frozen BK163.1 0;have hfz78_1:=blk_frozen BK163.1 1));refine bodyPost_ret (results_ct rfl _ _ gb163 28 #[.int .i64 0,.slice none 0 0] (0,0) _ rfl qB1 Try.underlying28 rfl (by kernel_rfl)) rfl ?_;exact⟨_,by first|rfl|(simp [errW_none,errW_some] <;> rfl)|(simp [*,errW_none,errW_some] <;> rfl),by first|exact Kd.R_nil _ _ _ _ _|exact Kd.N_nil _ _ _ _ _|exact Kd.V_nil _ _ _ _ _|exact Kd.Q_nil _ _ _ _ _|exact Kd.S_nil _ _ _ _ _,by repeat(first|(with_reducible first|exact HB.1|apply below_alloc|apply pw_below_drewN|apply below_drew1|refine below_set ?_ GE163.1)|exact HB.1)⟩
    · replace c7:=Bool.eq_false_iff.mpr c7
      subst c7;have H1:(some (0,([]:List Int),2))=some (r1,r2,r3):=by rw [if_neg (show ¬(false=true) by decide)] at H;exact H
      clear H;have H:=H1;clear H1;simp only [Option.some.injEq,Prod.mk.injEq] at H;obtain⟨rfl,rfl,rfl⟩:=H;go_enter Try.func29,Try.ntmps29;go_wp2_with (first|((with_reducible refine gate_dst (N:=6) rfl ?_);refine box_event ?hg (N:=6) ?hd (cs:=#[.int .i64 0,.slice none 0 0]) (t:=28) ?hr ?_;(case hd=>rfl);(case hg=>rfl);(case hr=>first|(go_simp;done)|(go_simp;rfl));intro gb163 hg w79 hbox hb;have n0_:=qAm (below_step qB18 hb);have n1_:=qAm (hbox);have n2_:=qAm ((by rw [hg];exact(below_size qB18):w.heap.size≤gb163));have n3_:=qAm ((by rw [hg];exact(below_size qB18):w.heap.size≤gb163));clear HB;have HB:=n0_;have BK163:=n1_;have GW163:=n2_;have GE163:=n3_;clear n0_ n1_ n2_ n3_;clear hb hbox hg)|((with_reducible refine gate_callee (f:=55) rfl ?_);refine goesL_ (some 21) rfl rfl Try.func55 (by kernel_rfl) rfl #[.int .i64 a0,.int .i64 a1] rfl qB17 ?_;(with_reducible refine(spec_l07Code.calls k a0 a1 t164 _ A4.1).mono ?_);rintro e w' ⟨rfl,⟨nd,rfl⟩⟩;refine⟨_,rfl,?_⟩;(try(rw [drewN_self w79];generalize hq_:World.drewN w79 _=w79;have n0_:Aside0 (w79.heap[gb163]? =some (.cells #[.int .i64 0,.slice none 0 0] 28 (0,0))):=⟨by rw [← hq_];exact qB22⟩;have n1_:Aside0 (Below w.heap.size w w79):=⟨by rw [← hq_];exact qB14⟩;clear BK163 HB hq_;have BK163:=n0_;have HB:=n1_;clear n0_ n1_)))|((with_reducible refine gate_callee (f:=56) rfl ?_);refine goesL_ (some 28) rfl rfl Try.func56 (by kernel_rfl) rfl #[.int .i64 a0,.int .i64 a1] rfl qB17 ?_;(with_reducible refine(spec_l07Fully.calls a0 a1 false _ A6.1).mono ?_);rintro e w' ⟨rfl,⟨nd,rfl⟩⟩;refine⟨_,rfl,?_⟩;(try(rw [drewN_self w79];generalize hq_:World.drewN w79 _=w79;have n0_:Aside0 (w79.heap[gb163]? =some (.cells #[.int .i64 0,.slice none 0 0] 28 (0,0))):=⟨by rw [← hq_];exact qB22⟩;have n1_:Aside0 (Below w.heap.size w w79):=⟨by rw [← hq_];exact qB14⟩;clear BK163 HB hq_;have BK163:=n0_;have HB:=n1_;clear n0_ n1_));have hcz80_0:w79.cell? ⟨gb163,0,none⟩=some (.int .i64 0):=(blk_cell BK163.1 0).trans rfl;have hcz80_1:w79.cell? ⟨gb163,1,none⟩=some (.slice none 0 0):=(blk_cell BK163.1 1).trans rfl;have hfz80_0:=blk_frozen BK163.1 0;have hfz80_1:=blk_frozen BK163.1 1));refine bodyPost_ret (results_ct rfl _ _ gb163 28 #[.int .i64 0,.slice none 0 0] (0,0) _ rfl qB1 Try.underlying28 rfl (by kernel_rfl)) rfl ?_;exact⟨_,by first|rfl|(simp [errW_none,errW_some] <;> rfl)|(simp [*,errW_none,errW_some] <;> rfl),by first|exact Kd.R_nil _ _ _ _ _|exact Kd.N_nil _ _ _ _ _|exact Kd.V_nil _ _ _ _ _|exact Kd.Q_nil _ _ _ _ _|exact Kd.S_nil _ _ _ _ _,by repeat(first|(with_reducible first|exact HB.1|apply below_alloc|apply pw_below_drewN|apply below_drew1|refine below_set ?_ GE163.1)|exact HB.1)⟩
  · rw [if_neg c5] at H
    have c5b0:(t164==0)=false:=beq_eq_false_iff_ne.mpr c5;have c5b1:(t164 !=0)=true:=bne_iff_ne.mpr c5;simp only [Option.some.injEq,Prod.mk.injEq] at H;obtain⟨rfl,rfl,rfl⟩:=H;go_enter Try.func29,Try.ntmps29;go_wp2_with (first|((with_reducible refine gate_dst (N:=6) rfl ?_);refine box_event ?hg (N:=6) ?hd (cs:=#[.int .i64 0,.slice none 0 0]) (t:=28) ?hr ?_;(case hd=>rfl);(case hg=>rfl);(case hr=>first|(go_simp;done)|(go_simp;rfl));intro gb163 hg w81 hbox hb;have n0_:=qAm (below_step qB18 hb);have n1_:=qAm (hbox);have n2_:=qAm ((by rw [hg];exact(below_size qB18):w.heap.size≤gb163));have n3_:=qAm ((by rw [hg];exact(below_size qB18):w.heap.size≤gb163));clear HB;have HB:=n0_;have BK163:=n1_;have GW163:=n2_;have GE163:=n3_;clear n0_ n1_ n2_ n3_;clear hb hbox hg)|((with_reducible refine gate_callee (f:=55) rfl ?_);refine goesL_ (some 21) rfl rfl Try.func55 (by kernel_rfl) rfl #[.int .i64 a0,.int .i64 a1] rfl qB17 ?_;(with_reducible refine(spec_l07Code.calls k a0 a1 t164 _ A4.1).mono ?_);rintro e w' ⟨rfl,⟨nd,rfl⟩⟩;refine⟨_,rfl,?_⟩;(try(rw [drewN_self w81];generalize hq_:World.drewN w81 _=w81;have n0_:Aside0 (w81.heap[gb163]? =some (.cells #[.int .i64 0,.slice none 0 0] 28 (0,0))):=⟨by rw [← hq_];exact qB22⟩;have n1_:Aside0 (Below w.heap.size w w81):=⟨by rw [← hq_];exact qB14⟩;clear BK163 HB hq_;have BK163:=n0_;have HB:=n1_;clear n0_ n1_));have hcz82_0:w81.cell? ⟨gb163,0,none⟩=some (.int .i64 0):=(blk_cell BK163.1 0).trans rfl;have hcz82_1:w81.cell? ⟨gb163,1,none⟩=some (.slice none 0 0):=(blk_cell BK163.1 1).trans rfl;have hfz82_0:=blk_frozen BK163.1 0;have hfz82_1:=blk_frozen BK163.1 1));refine bodyPost_ret (results_ct rfl _ _ gb163 28 #[.int .i64 0,.slice none 0 0] (0,0) _ rfl qB1 Try.underlying28 rfl (by kernel_rfl)) rfl ?_;exact⟨_,by first|rfl|(simp [errW_none,errW_some] <;> rfl)|(simp [*,errW_none,errW_some] <;> rfl),by first|exact Kd.R_nil _ _ _ _ _|exact Kd.N_nil _ _ _ _ _|exact Kd.V_nil _ _ _ _ _|exact Kd.Q_nil _ _ _ _ _|exact Kd.S_nil _ _ _ _ _,by repeat(first|(with_reducible first|exact HB.1|apply below_alloc|apply pw_below_drewN|apply below_drew1|refine below_set ?_ GE163.1)|exact HB.1)⟩

end Go.Proofs.Ytefhabkikaadiaa.PFnExactCycloAtResidues
