/- The functions that the law reaches, as plain functions, each with the proof that the program comes to it; no condition. Written by a program of this session (wip/mp.py) over the printing of the kit; what is marked HAND is told by hand. -/
import Derived.Test.YtefhabkikaadiaaPFnPeriodsx0
import Derived.Test.YtefhabkikaadiaaPFnPeriodsx1
import Derived.Test.YtefhabkikaadiaaPFnPeriodsx3
import Derived.Test.YtefhabkikaadiaaPFnPeriodsx5
import Derived.Test.YtefhabkikaadiaaPFnPeriodsx6
import Derived.Test.YtefhabkikaadiaaPFnPeriodsx7
import Derived.Test.YtefhabkikaadiaaPFnPeriodsx8
import Derived.Test.YtefhabkikaadiaaPFnPeriodsx9
namespace Go.Proofs.Ytefhabkikaadiaa.PFnPeriods
open Go.RowKit Go.Proofs.YtefhabkikaadiaaW.PrintWords Go.Proofs.YtefhabkikaadiaaW.PrintLast Go.Proofs.YtefhabkikaadiaaW.PrintMore
attribute [local go_sem] max2_int min2_int max_two min_two max_three min_three max_four min_four   -- for this text's walks alone
set_option linter.unusedVariables false
set_option linter.unusedSimpArgs false

/-! ### laws_FnPeriods: function 8 -/
mutual
def laws_FnPeriods.j0:Nat→List Int→Int→Int→List (List Int)→Int→Bool→Option (Bool)
  |0,_,_,_,_,_,_=>none
  |k+1,x0,x3,x4,x5,x6,x73=>if x73=true then (some false) else ((spec_DrawClassOf.f k x0).bind fun bt470=>((impl_ClassOf.f k bt470.1 bt470.2.1 bt470.2.2).bind fun bt473=>((spec_ClassOf.f k bt470.1 bt470.2.1 bt470.2.2).bind fun bt475=>(if bt473.2=bt475.2 then (laws_FnPeriods.j1 k x0 x3 x4 x5 x6 bt470.1 bt470.2.1 bt470.2.2 bt473.1 bt473.2 (bt473.1 !=bt475.1)) else (laws_FnPeriods.j1 k x0 x3 x4 x5 x6 bt470.1 bt470.2.1 bt470.2.2 bt473.1 bt473.2 true)))))
def laws_FnPeriods.j1:Nat→List Int→Int→Int→List (List Int)→Int→Int→Int→Int→Int→Int→Bool→Option (Bool)
  |0,_,_,_,_,_,_,_,_,_,_,_=>none
  |k+1,x0,x3,x4,x5,x6,x9,x10,x11,x12,x13,x101=>if x101=true then (some false) else ((spec_DrawClassMembers.f k x0).bind fun bt477=>((impl_ClassMembers.f k bt477.1 bt477.2.1 bt477.2.2).bind fun bt480=>((spec_ClassMembers.f k bt477.1 bt477.2.1 bt477.2.2).bind fun bt484=>(if bt480.2=bt484.2 then ((laws_likeInts.f k bt480.1 bt484.1).bind fun t488=>(laws_FnPeriods.j2 k x0 x3 x4 x5 x6 x9 x10 x11 x12 x13 bt477.1 bt477.2.1 bt480.1 bt480.2 (!t488))) else (laws_FnPeriods.j2 k x0 x3 x4 x5 x6 x9 x10 x11 x12 x13 bt477.1 bt477.2.1 bt480.1 bt480.2 true)))))
def laws_FnPeriods.j2:Nat→List Int→Int→Int→List (List Int)→Int→Int→Int→Int→Int→Int→Int→Int→List Int→Int→Bool→Option (Bool)
  |0,_,_,_,_,_,_,_,_,_,_,_,_,_,_,_=>none
  |k+1,x0,x3,x4,x5,x6,x9,x10,x11,x12,x13,x16,x17,x19,x20,x130=>if x130=true then (some false) else ((spec_DrawCyclotomicNumber.f k x0).bind fun bt489=>((impl_CyclotomicNumber.f k bt489.1 bt489.2.1 bt489.2.2.1 bt489.2.2.2).bind fun bt493=>((spec_CyclotomicNumber.f k bt489.1 bt489.2.1 bt489.2.2.1 bt489.2.2.2).bind fun bt495=>(if bt493.2=bt495.2 then (laws_FnPeriods.j3 k x3 x4 x5 x6 x9 x10 x11 x12 x13 x16 x17 x19 x20 (bt493.1 !=bt495.1)) else (laws_FnPeriods.j3 k x3 x4 x5 x6 x9 x10 x11 x12 x13 x16 x17 x19 x20 true)))))
def laws_FnPeriods.j3:Nat→Int→Int→List (List Int)→Int→Int→Int→Int→Int→Int→Int→Int→List Int→Int→Bool→Option (Bool)
  |0,_,_,_,_,_,_,_,_,_,_,_,_,_,_=>none
  |k+1,x3,x4,x5,x6,x9,x10,x11,x12,x13,x16,x17,x19,x20,x161=>if x161=true then (some false) else ((impl_DifferenceNumbers.f k x3 x4).bind fun bt497=>((spec_DifferenceNumbers.f k x3 x4).bind fun bt501=>(if bt497.2=bt501.2 then ((laws_likeInts.f k bt497.1 bt501.1).bind fun t505=>(laws_FnPeriods.j4 k x3 x4 x5 x6 x9 x10 x11 x12 x13 x16 x17 x19 x20 bt497.1 bt497.2 (!t505))) else (laws_FnPeriods.j4 k x3 x4 x5 x6 x9 x10 x11 x12 x13 x16 x17 x19 x20 bt497.1 bt497.2 true))))
def laws_FnPeriods.j4:Nat→Int→Int→List (List Int)→Int→Int→Int→Int→Int→Int→Int→Int→List Int→Int→List Int→Int→Bool→Option (Bool)
  |0,_,_,_,_,_,_,_,_,_,_,_,_,_,_,_,_=>none
  |k+1,x3,x4,x5,x6,x9,x10,x11,x12,x13,x16,x17,x19,x20,x31,x32,x182=>if x182=true then (some false) else ((impl_IsDifferenceClass.f k x3 x4).bind fun bt506=>((spec_IsDifferenceClass.f k x3 x4).bind fun bt508=>(if bt506.2=bt508.2 then (laws_FnPeriods.j5 k x3 x4 x5 x6 x9 x10 x11 x12 x13 x16 x17 x19 x20 x31 x32 bt506.2 (bt506.1 !=bt508.1)) else (laws_FnPeriods.j5 k x3 x4 x5 x6 x9 x10 x11 x12 x13 x16 x17 x19 x20 x31 x32 bt506.2 true))))
def laws_FnPeriods.j5:Nat→Int→Int→List (List Int)→Int→Int→Int→Int→Int→Int→Int→Int→List Int→Int→List Int→Int→Int→Bool→Option (Bool)
  |0,_,_,_,_,_,_,_,_,_,_,_,_,_,_,_,_,_=>none
  |k+1,x3,x4,x5,x6,x9,x10,x11,x12,x13,x16,x17,x19,x20,x31,x32,x36,x202=>if x202=true then (some false) else (if x13=0 then ((impl_ClassMembers.f k x9 x10 x12).bind fun bt510=>(if bt510.2=0 then ((laws_hasInt.f k bt510.1 x11).bind fun t514=>(if t514=true then (laws_FnPeriods.j6 k x3 x4 x5 x6 x16 x17 x19 x20 x31 x32 x36) else (some false))) else (some false))) else (laws_FnPeriods.j6 k x3 x4 x5 x6 x16 x17 x19 x20 x31 x32 x36))
def laws_FnPeriods.j6:Nat→Int→Int→List (List Int)→Int→Int→Int→List Int→Int→List Int→Int→Int→Option (Bool)
  |0,_,_,_,_,_,_,_,_,_,_,_=>none
  |k+1,x3,x4,x5,x6,x16,x17,x19,x20,x31,x32,x36=>if x20=0 then (if x17=0 then (none) else (laws_FnPeriods.j7 k x3 x4 x5 x6 x31 x32 x36 ((x19.length:Int) !=(wrap64 (Int.tdiv (wrap64 (x16 - 1)) x17))))) else (laws_FnPeriods.j7 k x3 x4 x5 x6 x31 x32 x36 false)
def laws_FnPeriods.j7:Nat→Int→Int→List (List Int)→Int→List Int→Int→Int→Bool→Option (Bool)
  |0,_,_,_,_,_,_,_,_=>none
  |k+1,x3,x4,x5,x6,x31,x32,x36,x230=>if x230=true then (some false) else (if x6=0 then ((impl_ClassOf.f k x3 x4 (wrap64 (x3 - 1))).bind fun bt515=>(laws_FnPeriods.l0 k x3 x4 x5 x31 x32 x36 bt515.1 bt515.2 0 0)) else (if (x5.length:Int)=0 then (if x32=x6 then (some (x36==x6)) else (some false)) else (some false)))
def laws_FnPeriods.l0:Nat→Int→Int→List (List Int)→List Int→Int→Int→Int→Int→Int→Int→Option (Bool)
  |0,_,_,_,_,_,_,_,_,_,_=>none
  |k+1,x3,x4,x5,x31,x32,x36,x41,x42,x43,x44=>if x44<x4 then (if x4=0 then (none) else (if x44=x41 then (if 0≤x44 then (if x44<(x5.length:Int) then ((laws_sum.f k (rd_L2 x5 x44)).bind fun t518=>(if t518=(wrap64 ((wrap64 (Int.tdiv (wrap64 (x3 - 1)) x4)) - 1)) then (if x44<(x31.length:Int) then (laws_FnPeriods.l0 k x3 x4 x5 x31 x32 x36 x41 x42 (wrap64 (x43+(wrap64 ((rd x31 x44)*(wrap64 (Int.tdiv (wrap64 (x3 - 1)) x4)))))) (wrap64 (x44+1))) else (none)) else (some false))) else (none)) else (none)) else (if 0≤x44 then (if x44<(x5.length:Int) then ((laws_sum.f k (rd_L2 x5 x44)).bind fun t521=>(if t521=(wrap64 (Int.tdiv (wrap64 (x3 - 1)) x4)) then (if x44<(x31.length:Int) then (laws_FnPeriods.l0 k x3 x4 x5 x31 x32 x36 x41 x42 (wrap64 (x43+(wrap64 ((rd x31 x44)*(wrap64 (Int.tdiv (wrap64 (x3 - 1)) x4)))))) (wrap64 (x44+1))) else (none)) else (some false))) else (none)) else (none)))) else (if x42=0 then (if x32=0 then (if x36=0 then (if x4=0 then (none) else (some (x43==(wrap64 ((wrap64 (Int.tdiv (wrap64 (x3 - 1)) x4))*(wrap64 ((wrap64 (Int.tdiv (wrap64 (x3 - 1)) x4)) - 1))))))) else (some false)) else (some false)) else (some false))
end
def laws_FnPeriods.f (k:Nat) (l0:List Int):Option (Bool):=(laws_big.f l0).bind fun t458=>(if t458=true then (some true) else ((spec_DrawCyclotomicTable.f k l0).bind fun bt459=>((impl_CyclotomicTable.f k bt459.1 bt459.2).bind fun bt461=>((spec_CyclotomicTable.f k bt459.1 bt459.2).bind fun bt465=>(if bt461.2=bt465.2 then ((laws_rows9.f k bt461.1 bt465.1).bind fun t469=>(laws_FnPeriods.j0 k l0 bt459.1 bt459.2 bt461.1 bt461.2 (!t469))) else (laws_FnPeriods.j0 k l0 bt459.1 bt459.2 bt461.1 bt461.2 true))))))
theorem laws_FnPeriods.mono_l:∀k,(∀y0 y1 y2 y3 y4 y5,LeO (laws_FnPeriods.j0 k y0 y1 y2 y3 y4 y5) (laws_FnPeriods.j0 (k+1) y0 y1 y2 y3 y4 y5))∧(∀y0 y1 y2 y3 y4 y5 y6 y7 y8 y9 y10,LeO (laws_FnPeriods.j1 k y0 y1 y2 y3 y4 y5 y6 y7 y8 y9 y10) (laws_FnPeriods.j1 (k+1) y0 y1 y2 y3 y4 y5 y6 y7 y8 y9 y10))∧(∀y0 y1 y2 y3 y4 y5 y6 y7 y8 y9 y10 y11 y12 y13 y14,LeO (laws_FnPeriods.j2 k y0 y1 y2 y3 y4 y5 y6 y7 y8 y9 y10 y11 y12 y13 y14) (laws_FnPeriods.j2 (k+1) y0 y1 y2 y3 y4 y5 y6 y7 y8 y9 y10 y11 y12 y13 y14))∧(∀y0 y1 y2 y3 y4 y5 y6 y7 y8 y9 y10 y11 y12 y13,LeO (laws_FnPeriods.j3 k y0 y1 y2 y3 y4 y5 y6 y7 y8 y9 y10 y11 y12 y13) (laws_FnPeriods.j3 (k+1) y0 y1 y2 y3 y4 y5 y6 y7 y8 y9 y10 y11 y12 y13))∧(∀y0 y1 y2 y3 y4 y5 y6 y7 y8 y9 y10 y11 y12 y13 y14 y15,LeO (laws_FnPeriods.j4 k y0 y1 y2 y3 y4 y5 y6 y7 y8 y9 y10 y11 y12 y13 y14 y15) (laws_FnPeriods.j4 (k+1) y0 y1 y2 y3 y4 y5 y6 y7 y8 y9 y10 y11 y12 y13 y14 y15))∧(∀y0 y1 y2 y3 y4 y5 y6 y7 y8 y9 y10 y11 y12 y13 y14 y15 y16,LeO (laws_FnPeriods.j5 k y0 y1 y2 y3 y4 y5 y6 y7 y8 y9 y10 y11 y12 y13 y14 y15 y16) (laws_FnPeriods.j5 (k+1) y0 y1 y2 y3 y4 y5 y6 y7 y8 y9 y10 y11 y12 y13 y14 y15 y16))∧(∀y0 y1 y2 y3 y4 y5 y6 y7 y8 y9 y10,LeO (laws_FnPeriods.j6 k y0 y1 y2 y3 y4 y5 y6 y7 y8 y9 y10) (laws_FnPeriods.j6 (k+1) y0 y1 y2 y3 y4 y5 y6 y7 y8 y9 y10))∧(∀y0 y1 y2 y3 y4 y5 y6 y7,LeO (laws_FnPeriods.j7 k y0 y1 y2 y3 y4 y5 y6 y7) (laws_FnPeriods.j7 (k+1) y0 y1 y2 y3 y4 y5 y6 y7))∧(∀y0 y1 y2 y3 y4 y5 y6 y7 y8 y9,LeO (laws_FnPeriods.l0 k y0 y1 y2 y3 y4 y5 y6 y7 y8 y9) (laws_FnPeriods.l0 (k+1) y0 y1 y2 y3 y4 y5 y6 y7 y8 y9))
  |0=>⟨fun _ _ _ _ _ _ r h=>by simp [laws_FnPeriods.j0] at h,fun _ _ _ _ _ _ _ _ _ _ _ r h=>by simp [laws_FnPeriods.j1] at h,fun _ _ _ _ _ _ _ _ _ _ _ _ _ _ _ r h=>by simp [laws_FnPeriods.j2] at h,fun _ _ _ _ _ _ _ _ _ _ _ _ _ _ r h=>by simp [laws_FnPeriods.j3] at h,fun _ _ _ _ _ _ _ _ _ _ _ _ _ _ _ _ r h=>by simp [laws_FnPeriods.j4] at h,fun _ _ _ _ _ _ _ _ _ _ _ _ _ _ _ _ _ r h=>by simp [laws_FnPeriods.j5] at h,fun _ _ _ _ _ _ _ _ _ _ _ r h=>by simp [laws_FnPeriods.j6] at h,fun _ _ _ _ _ _ _ _ r h=>by simp [laws_FnPeriods.j7] at h,fun _ _ _ _ _ _ _ _ _ _ r h=>by simp [laws_FnPeriods.l0] at h⟩
  |k+1=>by
    obtain⟨ih0,ih1,ih2,ih3,ih4,ih5,ih6,ih7,ih8⟩:=laws_FnPeriods.mono_l k;refine⟨?_,?_,?_,?_,?_,?_,?_,?_,?_⟩
    · intro y0 y1 y2 y3 y4 y5
      unfold laws_FnPeriods.j0;repeat' first
      |(with_reducible exact ih0 _ _ _ _ _ _)
      |(with_reducible exact ih1 _ _ _ _ _ _ _ _ _ _ _)
      |(with_reducible exact ih2 _ _ _ _ _ _ _ _ _ _ _ _ _ _ _)
      |(with_reducible exact ih3 _ _ _ _ _ _ _ _ _ _ _ _ _ _)
      |(with_reducible exact ih4 _ _ _ _ _ _ _ _ _ _ _ _ _ _ _ _)
      |(with_reducible exact ih5 _ _ _ _ _ _ _ _ _ _ _ _ _ _ _ _ _)
      |(with_reducible exact ih6 _ _ _ _ _ _ _ _ _ _ _)
      |(with_reducible exact ih7 _ _ _ _ _ _ _ _)
      |(with_reducible exact ih8 _ _ _ _ _ _ _ _ _ _)
      |(with_reducible exact impl_ClassMembers.mono _ _ _ _)
      |(with_reducible exact impl_ClassOf.mono _ _ _ _)
      |(with_reducible exact impl_CyclotomicNumber.mono _ _ _ _ _)
      |(with_reducible exact impl_CyclotomicTable.mono _ _ _)
      |(with_reducible exact impl_DifferenceNumbers.mono _ _ _)
      |(with_reducible exact impl_IsDifferenceClass.mono _ _ _)
      |(with_reducible exact laws_hasInt.mono _ _ _)
      |(with_reducible exact laws_likeInts.mono _ _ _)
      |(with_reducible exact laws_rows9.mono _ _ _)
      |(with_reducible exact laws_sum.mono _ _)
      |(with_reducible exact spec_ClassMembers.mono _ _ _ _)
      |(with_reducible exact spec_ClassOf.mono _ _ _ _)
      |(with_reducible exact spec_CyclotomicNumber.mono _ _ _ _ _)
      |(with_reducible exact spec_CyclotomicTable.mono _ _ _)
      |(with_reducible exact spec_DifferenceNumbers.mono _ _ _)
      |(with_reducible exact spec_DrawClassMembers.mono _ _)
      |(with_reducible exact spec_DrawClassOf.mono _ _)
      |(with_reducible exact spec_DrawCyclotomicNumber.mono _ _)
      |(with_reducible exact spec_DrawCyclotomicTable.mono _ _)
      |(with_reducible exact spec_IsDifferenceClass.mono _ _ _)
      |(with_reducible exact LeO.refl _)
      |(with_reducible exact LeO.none _)
      |(with_reducible refine LeO.ite ?_ ?_)
      |(with_reducible refine LeO.bind ?_ (fun _=>?_))
      |exact ih0 _ _ _ _ _ _
      |exact ih1 _ _ _ _ _ _ _ _ _ _ _
      |exact ih2 _ _ _ _ _ _ _ _ _ _ _ _ _ _ _
      |exact ih3 _ _ _ _ _ _ _ _ _ _ _ _ _ _
      |exact ih4 _ _ _ _ _ _ _ _ _ _ _ _ _ _ _ _
      |exact ih5 _ _ _ _ _ _ _ _ _ _ _ _ _ _ _ _ _
      |exact ih6 _ _ _ _ _ _ _ _ _ _ _
      |exact ih7 _ _ _ _ _ _ _ _
      |exact ih8 _ _ _ _ _ _ _ _ _ _
      |exact impl_ClassMembers.mono _ _ _ _
      |exact impl_ClassOf.mono _ _ _ _
      |exact impl_CyclotomicNumber.mono _ _ _ _ _
      |exact impl_CyclotomicTable.mono _ _ _
      |exact impl_DifferenceNumbers.mono _ _ _
      |exact impl_IsDifferenceClass.mono _ _ _
      |exact laws_hasInt.mono _ _ _
      |exact laws_likeInts.mono _ _ _
      |exact laws_rows9.mono _ _ _
      |exact laws_sum.mono _ _
      |exact spec_ClassMembers.mono _ _ _ _
      |exact spec_ClassOf.mono _ _ _ _
      |exact spec_CyclotomicNumber.mono _ _ _ _ _
      |exact spec_CyclotomicTable.mono _ _ _
      |exact spec_DifferenceNumbers.mono _ _ _
      |exact spec_DrawClassMembers.mono _ _
      |exact spec_DrawClassOf.mono _ _
      |exact spec_DrawCyclotomicNumber.mono _ _
      |exact spec_DrawCyclotomicTable.mono _ _
      |exact spec_IsDifferenceClass.mono _ _ _
      |exact LeO.none _
      |refine LeO.ite ?_ ?_
      |refine LeO.bind ?_ (fun _=>?_)
    · intro y0 y1 y2 y3 y4 y5 y6 y7 y8 y9 y10
      unfold laws_FnPeriods.j1;repeat' first
      |(with_reducible exact ih0 _ _ _ _ _ _)
      |(with_reducible exact ih1 _ _ _ _ _ _ _ _ _ _ _)
      |(with_reducible exact ih2 _ _ _ _ _ _ _ _ _ _ _ _ _ _ _)
      |(with_reducible exact ih3 _ _ _ _ _ _ _ _ _ _ _ _ _ _)
      |(with_reducible exact ih4 _ _ _ _ _ _ _ _ _ _ _ _ _ _ _ _)
      |(with_reducible exact ih5 _ _ _ _ _ _ _ _ _ _ _ _ _ _ _ _ _)
      |(with_reducible exact ih6 _ _ _ _ _ _ _ _ _ _ _)
      |(with_reducible exact ih7 _ _ _ _ _ _ _ _)
      |(with_reducible exact ih8 _ _ _ _ _ _ _ _ _ _)
      |(with_reducible exact impl_ClassMembers.mono _ _ _ _)
      |(with_reducible exact impl_ClassOf.mono _ _ _ _)
      |(with_reducible exact impl_CyclotomicNumber.mono _ _ _ _ _)
      |(with_reducible exact impl_CyclotomicTable.mono _ _ _)
      |(with_reducible exact impl_DifferenceNumbers.mono _ _ _)
      |(with_reducible exact impl_IsDifferenceClass.mono _ _ _)
      |(with_reducible exact laws_hasInt.mono _ _ _)
      |(with_reducible exact laws_likeInts.mono _ _ _)
      |(with_reducible exact laws_rows9.mono _ _ _)
      |(with_reducible exact laws_sum.mono _ _)
      |(with_reducible exact spec_ClassMembers.mono _ _ _ _)
      |(with_reducible exact spec_ClassOf.mono _ _ _ _)
      |(with_reducible exact spec_CyclotomicNumber.mono _ _ _ _ _)
      |(with_reducible exact spec_CyclotomicTable.mono _ _ _)
      |(with_reducible exact spec_DifferenceNumbers.mono _ _ _)
      |(with_reducible exact spec_DrawClassMembers.mono _ _)
      |(with_reducible exact spec_DrawClassOf.mono _ _)
      |(with_reducible exact spec_DrawCyclotomicNumber.mono _ _)
      |(with_reducible exact spec_DrawCyclotomicTable.mono _ _)
      |(with_reducible exact spec_IsDifferenceClass.mono _ _ _)
      |(with_reducible exact LeO.refl _)
      |(with_reducible exact LeO.none _)
      |(with_reducible refine LeO.ite ?_ ?_)
      |(with_reducible refine LeO.bind ?_ (fun _=>?_))
      |exact ih0 _ _ _ _ _ _
      |exact ih1 _ _ _ _ _ _ _ _ _ _ _
      |exact ih2 _ _ _ _ _ _ _ _ _ _ _ _ _ _ _
      |exact ih3 _ _ _ _ _ _ _ _ _ _ _ _ _ _
      |exact ih4 _ _ _ _ _ _ _ _ _ _ _ _ _ _ _ _
      |exact ih5 _ _ _ _ _ _ _ _ _ _ _ _ _ _ _ _ _
      |exact ih6 _ _ _ _ _ _ _ _ _ _ _
      |exact ih7 _ _ _ _ _ _ _ _
      |exact ih8 _ _ _ _ _ _ _ _ _ _
      |exact impl_ClassMembers.mono _ _ _ _
      |exact impl_ClassOf.mono _ _ _ _
      |exact impl_CyclotomicNumber.mono _ _ _ _ _
      |exact impl_CyclotomicTable.mono _ _ _
      |exact impl_DifferenceNumbers.mono _ _ _
      |exact impl_IsDifferenceClass.mono _ _ _
      |exact laws_hasInt.mono _ _ _
      |exact laws_likeInts.mono _ _ _
      |exact laws_rows9.mono _ _ _
      |exact laws_sum.mono _ _
      |exact spec_ClassMembers.mono _ _ _ _
      |exact spec_ClassOf.mono _ _ _ _
      |exact spec_CyclotomicNumber.mono _ _ _ _ _
      |exact spec_CyclotomicTable.mono _ _ _
      |exact spec_DifferenceNumbers.mono _ _ _
      |exact spec_DrawClassMembers.mono _ _
      |exact spec_DrawClassOf.mono _ _
      |exact spec_DrawCyclotomicNumber.mono _ _
      |exact spec_DrawCyclotomicTable.mono _ _
      |exact spec_IsDifferenceClass.mono _ _ _
      |exact LeO.none _
      |refine LeO.ite ?_ ?_
      |refine LeO.bind ?_ (fun _=>?_)
    · intro y0 y1 y2 y3 y4 y5 y6 y7 y8 y9 y10 y11 y12 y13 y14
      unfold laws_FnPeriods.j2;repeat' first
      |(with_reducible exact ih0 _ _ _ _ _ _)
      |(with_reducible exact ih1 _ _ _ _ _ _ _ _ _ _ _)
      |(with_reducible exact ih2 _ _ _ _ _ _ _ _ _ _ _ _ _ _ _)
      |(with_reducible exact ih3 _ _ _ _ _ _ _ _ _ _ _ _ _ _)
      |(with_reducible exact ih4 _ _ _ _ _ _ _ _ _ _ _ _ _ _ _ _)
      |(with_reducible exact ih5 _ _ _ _ _ _ _ _ _ _ _ _ _ _ _ _ _)
      |(with_reducible exact ih6 _ _ _ _ _ _ _ _ _ _ _)
      |(with_reducible exact ih7 _ _ _ _ _ _ _ _)
      |(with_reducible exact ih8 _ _ _ _ _ _ _ _ _ _)
      |(with_reducible exact impl_ClassMembers.mono _ _ _ _)
      |(with_reducible exact impl_ClassOf.mono _ _ _ _)
      |(with_reducible exact impl_CyclotomicNumber.mono _ _ _ _ _)
      |(with_reducible exact impl_CyclotomicTable.mono _ _ _)
      |(with_reducible exact impl_DifferenceNumbers.mono _ _ _)
      |(with_reducible exact impl_IsDifferenceClass.mono _ _ _)
      |(with_reducible exact laws_hasInt.mono _ _ _)
      |(with_reducible exact laws_likeInts.mono _ _ _)
      |(with_reducible exact laws_rows9.mono _ _ _)
      |(with_reducible exact laws_sum.mono _ _)
      |(with_reducible exact spec_ClassMembers.mono _ _ _ _)
      |(with_reducible exact spec_ClassOf.mono _ _ _ _)
      |(with_reducible exact spec_CyclotomicNumber.mono _ _ _ _ _)
      |(with_reducible exact spec_CyclotomicTable.mono _ _ _)
      |(with_reducible exact spec_DifferenceNumbers.mono _ _ _)
      |(with_reducible exact spec_DrawClassMembers.mono _ _)
      |(with_reducible exact spec_DrawClassOf.mono _ _)
      |(with_reducible exact spec_DrawCyclotomicNumber.mono _ _)
      |(with_reducible exact spec_DrawCyclotomicTable.mono _ _)
      |(with_reducible exact spec_IsDifferenceClass.mono _ _ _)
      |(with_reducible exact LeO.refl _)
      |(with_reducible exact LeO.none _)
      |(with_reducible refine LeO.ite ?_ ?_)
      |(with_reducible refine LeO.bind ?_ (fun _=>?_))
      |exact ih0 _ _ _ _ _ _
      |exact ih1 _ _ _ _ _ _ _ _ _ _ _
      |exact ih2 _ _ _ _ _ _ _ _ _ _ _ _ _ _ _
      |exact ih3 _ _ _ _ _ _ _ _ _ _ _ _ _ _
      |exact ih4 _ _ _ _ _ _ _ _ _ _ _ _ _ _ _ _
      |exact ih5 _ _ _ _ _ _ _ _ _ _ _ _ _ _ _ _ _
      |exact ih6 _ _ _ _ _ _ _ _ _ _ _
      |exact ih7 _ _ _ _ _ _ _ _
      |exact ih8 _ _ _ _ _ _ _ _ _ _
      |exact impl_ClassMembers.mono _ _ _ _
      |exact impl_ClassOf.mono _ _ _ _
      |exact impl_CyclotomicNumber.mono _ _ _ _ _
      |exact impl_CyclotomicTable.mono _ _ _
      |exact impl_DifferenceNumbers.mono _ _ _
      |exact impl_IsDifferenceClass.mono _ _ _
      |exact laws_hasInt.mono _ _ _
      |exact laws_likeInts.mono _ _ _
      |exact laws_rows9.mono _ _ _
      |exact laws_sum.mono _ _
      |exact spec_ClassMembers.mono _ _ _ _
      |exact spec_ClassOf.mono _ _ _ _
      |exact spec_CyclotomicNumber.mono _ _ _ _ _
      |exact spec_CyclotomicTable.mono _ _ _
      |exact spec_DifferenceNumbers.mono _ _ _
      |exact spec_DrawClassMembers.mono _ _
      |exact spec_DrawClassOf.mono _ _
      |exact spec_DrawCyclotomicNumber.mono _ _
      |exact spec_DrawCyclotomicTable.mono _ _
      |exact spec_IsDifferenceClass.mono _ _ _
      |exact LeO.none _
      |refine LeO.ite ?_ ?_
      |refine LeO.bind ?_ (fun _=>?_)
    · intro y0 y1 y2 y3 y4 y5 y6 y7 y8 y9 y10 y11 y12 y13
      unfold laws_FnPeriods.j3;repeat' first
      |(with_reducible exact ih0 _ _ _ _ _ _)
      |(with_reducible exact ih1 _ _ _ _ _ _ _ _ _ _ _)
      |(with_reducible exact ih2 _ _ _ _ _ _ _ _ _ _ _ _ _ _ _)
      |(with_reducible exact ih3 _ _ _ _ _ _ _ _ _ _ _ _ _ _)
      |(with_reducible exact ih4 _ _ _ _ _ _ _ _ _ _ _ _ _ _ _ _)
      |(with_reducible exact ih5 _ _ _ _ _ _ _ _ _ _ _ _ _ _ _ _ _)
      |(with_reducible exact ih6 _ _ _ _ _ _ _ _ _ _ _)
      |(with_reducible exact ih7 _ _ _ _ _ _ _ _)
      |(with_reducible exact ih8 _ _ _ _ _ _ _ _ _ _)
      |(with_reducible exact impl_ClassMembers.mono _ _ _ _)
      |(with_reducible exact impl_ClassOf.mono _ _ _ _)
      |(with_reducible exact impl_CyclotomicNumber.mono _ _ _ _ _)
      |(with_reducible exact impl_CyclotomicTable.mono _ _ _)
      |(with_reducible exact impl_DifferenceNumbers.mono _ _ _)
      |(with_reducible exact impl_IsDifferenceClass.mono _ _ _)
      |(with_reducible exact laws_hasInt.mono _ _ _)
      |(with_reducible exact laws_likeInts.mono _ _ _)
      |(with_reducible exact laws_rows9.mono _ _ _)
      |(with_reducible exact laws_sum.mono _ _)
      |(with_reducible exact spec_ClassMembers.mono _ _ _ _)
      |(with_reducible exact spec_ClassOf.mono _ _ _ _)
      |(with_reducible exact spec_CyclotomicNumber.mono _ _ _ _ _)
      |(with_reducible exact spec_CyclotomicTable.mono _ _ _)
      |(with_reducible exact spec_DifferenceNumbers.mono _ _ _)
      |(with_reducible exact spec_DrawClassMembers.mono _ _)
      |(with_reducible exact spec_DrawClassOf.mono _ _)
      |(with_reducible exact spec_DrawCyclotomicNumber.mono _ _)
      |(with_reducible exact spec_DrawCyclotomicTable.mono _ _)
      |(with_reducible exact spec_IsDifferenceClass.mono _ _ _)
      |(with_reducible exact LeO.refl _)
      |(with_reducible exact LeO.none _)
      |(with_reducible refine LeO.ite ?_ ?_)
      |(with_reducible refine LeO.bind ?_ (fun _=>?_))
      |exact ih0 _ _ _ _ _ _
      |exact ih1 _ _ _ _ _ _ _ _ _ _ _
      |exact ih2 _ _ _ _ _ _ _ _ _ _ _ _ _ _ _
      |exact ih3 _ _ _ _ _ _ _ _ _ _ _ _ _ _
      |exact ih4 _ _ _ _ _ _ _ _ _ _ _ _ _ _ _ _
      |exact ih5 _ _ _ _ _ _ _ _ _ _ _ _ _ _ _ _ _
      |exact ih6 _ _ _ _ _ _ _ _ _ _ _
      |exact ih7 _ _ _ _ _ _ _ _
      |exact ih8 _ _ _ _ _ _ _ _ _ _
      |exact impl_ClassMembers.mono _ _ _ _
      |exact impl_ClassOf.mono _ _ _ _
      |exact impl_CyclotomicNumber.mono _ _ _ _ _
      |exact impl_CyclotomicTable.mono _ _ _
      |exact impl_DifferenceNumbers.mono _ _ _
      |exact impl_IsDifferenceClass.mono _ _ _
      |exact laws_hasInt.mono _ _ _
      |exact laws_likeInts.mono _ _ _
      |exact laws_rows9.mono _ _ _
      |exact laws_sum.mono _ _
      |exact spec_ClassMembers.mono _ _ _ _
      |exact spec_ClassOf.mono _ _ _ _
      |exact spec_CyclotomicNumber.mono _ _ _ _ _
      |exact spec_CyclotomicTable.mono _ _ _
      |exact spec_DifferenceNumbers.mono _ _ _
      |exact spec_DrawClassMembers.mono _ _
      |exact spec_DrawClassOf.mono _ _
      |exact spec_DrawCyclotomicNumber.mono _ _
      |exact spec_DrawCyclotomicTable.mono _ _
      |exact spec_IsDifferenceClass.mono _ _ _
      |exact LeO.none _
      |refine LeO.ite ?_ ?_
      |refine LeO.bind ?_ (fun _=>?_)
    · intro y0 y1 y2 y3 y4 y5 y6 y7 y8 y9 y10 y11 y12 y13 y14 y15
      unfold laws_FnPeriods.j4;repeat' first
      |(with_reducible exact ih0 _ _ _ _ _ _)
      |(with_reducible exact ih1 _ _ _ _ _ _ _ _ _ _ _)
      |(with_reducible exact ih2 _ _ _ _ _ _ _ _ _ _ _ _ _ _ _)
      |(with_reducible exact ih3 _ _ _ _ _ _ _ _ _ _ _ _ _ _)
      |(with_reducible exact ih4 _ _ _ _ _ _ _ _ _ _ _ _ _ _ _ _)
      |(with_reducible exact ih5 _ _ _ _ _ _ _ _ _ _ _ _ _ _ _ _ _)
      |(with_reducible exact ih6 _ _ _ _ _ _ _ _ _ _ _)
      |(with_reducible exact ih7 _ _ _ _ _ _ _ _)
      |(with_reducible exact ih8 _ _ _ _ _ _ _ _ _ _)
      |(with_reducible exact impl_ClassMembers.mono _ _ _ _)
      |(with_reducible exact impl_ClassOf.mono _ _ _ _)
      |(with_reducible exact impl_CyclotomicNumber.mono _ _ _ _ _)
      |(with_reducible exact impl_CyclotomicTable.mono _ _ _)
      |(with_reducible exact impl_DifferenceNumbers.mono _ _ _)
      |(with_reducible exact impl_IsDifferenceClass.mono _ _ _)
      |(with_reducible exact laws_hasInt.mono _ _ _)
      |(with_reducible exact laws_likeInts.mono _ _ _)
      |(with_reducible exact laws_rows9.mono _ _ _)
      |(with_reducible exact laws_sum.mono _ _)
      |(with_reducible exact spec_ClassMembers.mono _ _ _ _)
      |(with_reducible exact spec_ClassOf.mono _ _ _ _)
      |(with_reducible exact spec_CyclotomicNumber.mono _ _ _ _ _)
      |(with_reducible exact spec_CyclotomicTable.mono _ _ _)
      |(with_reducible exact spec_DifferenceNumbers.mono _ _ _)
      |(with_reducible exact spec_DrawClassMembers.mono _ _)
      |(with_reducible exact spec_DrawClassOf.mono _ _)
      |(with_reducible exact spec_DrawCyclotomicNumber.mono _ _)
      |(with_reducible exact spec_DrawCyclotomicTable.mono _ _)
      |(with_reducible exact spec_IsDifferenceClass.mono _ _ _)
      |(with_reducible exact LeO.refl _)
      |(with_reducible exact LeO.none _)
      |(with_reducible refine LeO.ite ?_ ?_)
      |(with_reducible refine LeO.bind ?_ (fun _=>?_))
      |exact ih0 _ _ _ _ _ _
      |exact ih1 _ _ _ _ _ _ _ _ _ _ _
      |exact ih2 _ _ _ _ _ _ _ _ _ _ _ _ _ _ _
      |exact ih3 _ _ _ _ _ _ _ _ _ _ _ _ _ _
      |exact ih4 _ _ _ _ _ _ _ _ _ _ _ _ _ _ _ _
      |exact ih5 _ _ _ _ _ _ _ _ _ _ _ _ _ _ _ _ _
      |exact ih6 _ _ _ _ _ _ _ _ _ _ _
      |exact ih7 _ _ _ _ _ _ _ _
      |exact ih8 _ _ _ _ _ _ _ _ _ _
      |exact impl_ClassMembers.mono _ _ _ _
      |exact impl_ClassOf.mono _ _ _ _
      |exact impl_CyclotomicNumber.mono _ _ _ _ _
      |exact impl_CyclotomicTable.mono _ _ _
      |exact impl_DifferenceNumbers.mono _ _ _
      |exact impl_IsDifferenceClass.mono _ _ _
      |exact laws_hasInt.mono _ _ _
      |exact laws_likeInts.mono _ _ _
      |exact laws_rows9.mono _ _ _
      |exact laws_sum.mono _ _
      |exact spec_ClassMembers.mono _ _ _ _
      |exact spec_ClassOf.mono _ _ _ _
      |exact spec_CyclotomicNumber.mono _ _ _ _ _
      |exact spec_CyclotomicTable.mono _ _ _
      |exact spec_DifferenceNumbers.mono _ _ _
      |exact spec_DrawClassMembers.mono _ _
      |exact spec_DrawClassOf.mono _ _
      |exact spec_DrawCyclotomicNumber.mono _ _
      |exact spec_DrawCyclotomicTable.mono _ _
      |exact spec_IsDifferenceClass.mono _ _ _
      |exact LeO.none _
      |refine LeO.ite ?_ ?_
      |refine LeO.bind ?_ (fun _=>?_)
    · intro y0 y1 y2 y3 y4 y5 y6 y7 y8 y9 y10 y11 y12 y13 y14 y15 y16
      unfold laws_FnPeriods.j5;repeat' first
      |(with_reducible exact ih0 _ _ _ _ _ _)
      |(with_reducible exact ih1 _ _ _ _ _ _ _ _ _ _ _)
      |(with_reducible exact ih2 _ _ _ _ _ _ _ _ _ _ _ _ _ _ _)
      |(with_reducible exact ih3 _ _ _ _ _ _ _ _ _ _ _ _ _ _)
      |(with_reducible exact ih4 _ _ _ _ _ _ _ _ _ _ _ _ _ _ _ _)
      |(with_reducible exact ih5 _ _ _ _ _ _ _ _ _ _ _ _ _ _ _ _ _)
      |(with_reducible exact ih6 _ _ _ _ _ _ _ _ _ _ _)
      |(with_reducible exact ih7 _ _ _ _ _ _ _ _)
      |(with_reducible exact ih8 _ _ _ _ _ _ _ _ _ _)
      |(with_reducible exact impl_ClassMembers.mono _ _ _ _)
      |(with_reducible exact impl_ClassOf.mono _ _ _ _)
      |(with_reducible exact impl_CyclotomicNumber.mono _ _ _ _ _)
      |(with_reducible exact impl_CyclotomicTable.mono _ _ _)
      |(with_reducible exact impl_DifferenceNumbers.mono _ _ _)
      |(with_reducible exact impl_IsDifferenceClass.mono _ _ _)
      |(with_reducible exact laws_hasInt.mono _ _ _)
      |(with_reducible exact laws_likeInts.mono _ _ _)
      |(with_reducible exact laws_rows9.mono _ _ _)
      |(with_reducible exact laws_sum.mono _ _)
      |(with_reducible exact spec_ClassMembers.mono _ _ _ _)
      |(with_reducible exact spec_ClassOf.mono _ _ _ _)
      |(with_reducible exact spec_CyclotomicNumber.mono _ _ _ _ _)
      |(with_reducible exact spec_CyclotomicTable.mono _ _ _)
      |(with_reducible exact spec_DifferenceNumbers.mono _ _ _)
      |(with_reducible exact spec_DrawClassMembers.mono _ _)
      |(with_reducible exact spec_DrawClassOf.mono _ _)
      |(with_reducible exact spec_DrawCyclotomicNumber.mono _ _)
      |(with_reducible exact spec_DrawCyclotomicTable.mono _ _)
      |(with_reducible exact spec_IsDifferenceClass.mono _ _ _)
      |(with_reducible exact LeO.refl _)
      |(with_reducible exact LeO.none _)
      |(with_reducible refine LeO.ite ?_ ?_)
      |(with_reducible refine LeO.bind ?_ (fun _=>?_))
      |exact ih0 _ _ _ _ _ _
      |exact ih1 _ _ _ _ _ _ _ _ _ _ _
      |exact ih2 _ _ _ _ _ _ _ _ _ _ _ _ _ _ _
      |exact ih3 _ _ _ _ _ _ _ _ _ _ _ _ _ _
      |exact ih4 _ _ _ _ _ _ _ _ _ _ _ _ _ _ _ _
      |exact ih5 _ _ _ _ _ _ _ _ _ _ _ _ _ _ _ _ _
      |exact ih6 _ _ _ _ _ _ _ _ _ _ _
      |exact ih7 _ _ _ _ _ _ _ _
      |exact ih8 _ _ _ _ _ _ _ _ _ _
      |exact impl_ClassMembers.mono _ _ _ _
      |exact impl_ClassOf.mono _ _ _ _
      |exact impl_CyclotomicNumber.mono _ _ _ _ _
      |exact impl_CyclotomicTable.mono _ _ _
      |exact impl_DifferenceNumbers.mono _ _ _
      |exact impl_IsDifferenceClass.mono _ _ _
      |exact laws_hasInt.mono _ _ _
      |exact laws_likeInts.mono _ _ _
      |exact laws_rows9.mono _ _ _
      |exact laws_sum.mono _ _
      |exact spec_ClassMembers.mono _ _ _ _
      |exact spec_ClassOf.mono _ _ _ _
      |exact spec_CyclotomicNumber.mono _ _ _ _ _
      |exact spec_CyclotomicTable.mono _ _ _
      |exact spec_DifferenceNumbers.mono _ _ _
      |exact spec_DrawClassMembers.mono _ _
      |exact spec_DrawClassOf.mono _ _
      |exact spec_DrawCyclotomicNumber.mono _ _
      |exact spec_DrawCyclotomicTable.mono _ _
      |exact spec_IsDifferenceClass.mono _ _ _
      |exact LeO.none _
      |refine LeO.ite ?_ ?_
      |refine LeO.bind ?_ (fun _=>?_)
    · intro y0 y1 y2 y3 y4 y5 y6 y7 y8 y9 y10
      unfold laws_FnPeriods.j6;repeat' first
      |(with_reducible exact ih0 _ _ _ _ _ _)
      |(with_reducible exact ih1 _ _ _ _ _ _ _ _ _ _ _)
      |(with_reducible exact ih2 _ _ _ _ _ _ _ _ _ _ _ _ _ _ _)
      |(with_reducible exact ih3 _ _ _ _ _ _ _ _ _ _ _ _ _ _)
      |(with_reducible exact ih4 _ _ _ _ _ _ _ _ _ _ _ _ _ _ _ _)
      |(with_reducible exact ih5 _ _ _ _ _ _ _ _ _ _ _ _ _ _ _ _ _)
      |(with_reducible exact ih6 _ _ _ _ _ _ _ _ _ _ _)
      |(with_reducible exact ih7 _ _ _ _ _ _ _ _)
      |(with_reducible exact ih8 _ _ _ _ _ _ _ _ _ _)
      |(with_reducible exact impl_ClassMembers.mono _ _ _ _)
      |(with_reducible exact impl_ClassOf.mono _ _ _ _)
      |(with_reducible exact impl_CyclotomicNumber.mono _ _ _ _ _)
      |(with_reducible exact impl_CyclotomicTable.mono _ _ _)
      |(with_reducible exact impl_DifferenceNumbers.mono _ _ _)
      |(with_reducible exact impl_IsDifferenceClass.mono _ _ _)
      |(with_reducible exact laws_hasInt.mono _ _ _)
      |(with_reducible exact laws_likeInts.mono _ _ _)
      |(with_reducible exact laws_rows9.mono _ _ _)
      |(with_reducible exact laws_sum.mono _ _)
      |(with_reducible exact spec_ClassMembers.mono _ _ _ _)
      |(with_reducible exact spec_ClassOf.mono _ _ _ _)
      |(with_reducible exact spec_CyclotomicNumber.mono _ _ _ _ _)
      |(with_reducible exact spec_CyclotomicTable.mono _ _ _)
      |(with_reducible exact spec_DifferenceNumbers.mono _ _ _)
      |(with_reducible exact spec_DrawClassMembers.mono _ _)
      |(with_reducible exact spec_DrawClassOf.mono _ _)
      |(with_reducible exact spec_DrawCyclotomicNumber.mono _ _)
      |(with_reducible exact spec_DrawCyclotomicTable.mono _ _)
      |(with_reducible exact spec_IsDifferenceClass.mono _ _ _)
      |(with_reducible exact LeO.refl _)
      |(with_reducible exact LeO.none _)
      |(with_reducible refine LeO.ite ?_ ?_)
      |(with_reducible refine LeO.bind ?_ (fun _=>?_))
      |exact ih0 _ _ _ _ _ _
      |exact ih1 _ _ _ _ _ _ _ _ _ _ _
      |exact ih2 _ _ _ _ _ _ _ _ _ _ _ _ _ _ _
      |exact ih3 _ _ _ _ _ _ _ _ _ _ _ _ _ _
      |exact ih4 _ _ _ _ _ _ _ _ _ _ _ _ _ _ _ _
      |exact ih5 _ _ _ _ _ _ _ _ _ _ _ _ _ _ _ _ _
      |exact ih6 _ _ _ _ _ _ _ _ _ _ _
      |exact ih7 _ _ _ _ _ _ _ _
      |exact ih8 _ _ _ _ _ _ _ _ _ _
      |exact impl_ClassMembers.mono _ _ _ _
      |exact impl_ClassOf.mono _ _ _ _
      |exact impl_CyclotomicNumber.mono _ _ _ _ _
      |exact impl_CyclotomicTable.mono _ _ _
      |exact impl_DifferenceNumbers.mono _ _ _
      |exact impl_IsDifferenceClass.mono _ _ _
      |exact laws_hasInt.mono _ _ _
      |exact laws_likeInts.mono _ _ _
      |exact laws_rows9.mono _ _ _
      |exact laws_sum.mono _ _
      |exact spec_ClassMembers.mono _ _ _ _
      |exact spec_ClassOf.mono _ _ _ _
      |exact spec_CyclotomicNumber.mono _ _ _ _ _
      |exact spec_CyclotomicTable.mono _ _ _
      |exact spec_DifferenceNumbers.mono _ _ _
      |exact spec_DrawClassMembers.mono _ _
      |exact spec_DrawClassOf.mono _ _
      |exact spec_DrawCyclotomicNumber.mono _ _
      |exact spec_DrawCyclotomicTable.mono _ _
      |exact spec_IsDifferenceClass.mono _ _ _
      |exact LeO.none _
      |refine LeO.ite ?_ ?_
      |refine LeO.bind ?_ (fun _=>?_)
    · intro y0 y1 y2 y3 y4 y5 y6 y7
      unfold laws_FnPeriods.j7;repeat' first
      |(with_reducible exact ih0 _ _ _ _ _ _)
      |(with_reducible exact ih1 _ _ _ _ _ _ _ _ _ _ _)
      |(with_reducible exact ih2 _ _ _ _ _ _ _ _ _ _ _ _ _ _ _)
      |(with_reducible exact ih3 _ _ _ _ _ _ _ _ _ _ _ _ _ _)
      |(with_reducible exact ih4 _ _ _ _ _ _ _ _ _ _ _ _ _ _ _ _)
      |(with_reducible exact ih5 _ _ _ _ _ _ _ _ _ _ _ _ _ _ _ _ _)
      |(with_reducible exact ih6 _ _ _ _ _ _ _ _ _ _ _)
      |(with_reducible exact ih7 _ _ _ _ _ _ _ _)
      |(with_reducible exact ih8 _ _ _ _ _ _ _ _ _ _)
      |(with_reducible exact impl_ClassMembers.mono _ _ _ _)
      |(with_reducible exact impl_ClassOf.mono _ _ _ _)
      |(with_reducible exact impl_CyclotomicNumber.mono _ _ _ _ _)
      |(with_reducible exact impl_CyclotomicTable.mono _ _ _)
      |(with_reducible exact impl_DifferenceNumbers.mono _ _ _)
      |(with_reducible exact impl_IsDifferenceClass.mono _ _ _)
      |(with_reducible exact laws_hasInt.mono _ _ _)
      |(with_reducible exact laws_likeInts.mono _ _ _)
      |(with_reducible exact laws_rows9.mono _ _ _)
      |(with_reducible exact laws_sum.mono _ _)
      |(with_reducible exact spec_ClassMembers.mono _ _ _ _)
      |(with_reducible exact spec_ClassOf.mono _ _ _ _)
      |(with_reducible exact spec_CyclotomicNumber.mono _ _ _ _ _)
      |(with_reducible exact spec_CyclotomicTable.mono _ _ _)
      |(with_reducible exact spec_DifferenceNumbers.mono _ _ _)
      |(with_reducible exact spec_DrawClassMembers.mono _ _)
      |(with_reducible exact spec_DrawClassOf.mono _ _)
      |(with_reducible exact spec_DrawCyclotomicNumber.mono _ _)
      |(with_reducible exact spec_DrawCyclotomicTable.mono _ _)
      |(with_reducible exact spec_IsDifferenceClass.mono _ _ _)
      |(with_reducible exact LeO.refl _)
      |(with_reducible exact LeO.none _)
      |(with_reducible refine LeO.ite ?_ ?_)
      |(with_reducible refine LeO.bind ?_ (fun _=>?_))
      |exact ih0 _ _ _ _ _ _
      |exact ih1 _ _ _ _ _ _ _ _ _ _ _
      |exact ih2 _ _ _ _ _ _ _ _ _ _ _ _ _ _ _
      |exact ih3 _ _ _ _ _ _ _ _ _ _ _ _ _ _
      |exact ih4 _ _ _ _ _ _ _ _ _ _ _ _ _ _ _ _
      |exact ih5 _ _ _ _ _ _ _ _ _ _ _ _ _ _ _ _ _
      |exact ih6 _ _ _ _ _ _ _ _ _ _ _
      |exact ih7 _ _ _ _ _ _ _ _
      |exact ih8 _ _ _ _ _ _ _ _ _ _
      |exact impl_ClassMembers.mono _ _ _ _
      |exact impl_ClassOf.mono _ _ _ _
      |exact impl_CyclotomicNumber.mono _ _ _ _ _
      |exact impl_CyclotomicTable.mono _ _ _
      |exact impl_DifferenceNumbers.mono _ _ _
      |exact impl_IsDifferenceClass.mono _ _ _
      |exact laws_hasInt.mono _ _ _
      |exact laws_likeInts.mono _ _ _
      |exact laws_rows9.mono _ _ _
      |exact laws_sum.mono _ _
      |exact spec_ClassMembers.mono _ _ _ _
      |exact spec_ClassOf.mono _ _ _ _
      |exact spec_CyclotomicNumber.mono _ _ _ _ _
      |exact spec_CyclotomicTable.mono _ _ _
      |exact spec_DifferenceNumbers.mono _ _ _
      |exact spec_DrawClassMembers.mono _ _
      |exact spec_DrawClassOf.mono _ _
      |exact spec_DrawCyclotomicNumber.mono _ _
      |exact spec_DrawCyclotomicTable.mono _ _
      |exact spec_IsDifferenceClass.mono _ _ _
      |exact LeO.none _
      |refine LeO.ite ?_ ?_
      |refine LeO.bind ?_ (fun _=>?_)
    · intro y0 y1 y2 y3 y4 y5 y6 y7 y8 y9
      unfold laws_FnPeriods.l0;repeat' first
      |(with_reducible exact ih0 _ _ _ _ _ _)
      |(with_reducible exact ih1 _ _ _ _ _ _ _ _ _ _ _)
      |(with_reducible exact ih2 _ _ _ _ _ _ _ _ _ _ _ _ _ _ _)
      |(with_reducible exact ih3 _ _ _ _ _ _ _ _ _ _ _ _ _ _)
      |(with_reducible exact ih4 _ _ _ _ _ _ _ _ _ _ _ _ _ _ _ _)
      |(with_reducible exact ih5 _ _ _ _ _ _ _ _ _ _ _ _ _ _ _ _ _)
      |(with_reducible exact ih6 _ _ _ _ _ _ _ _ _ _ _)
      |(with_reducible exact ih7 _ _ _ _ _ _ _ _)
      |(with_reducible exact ih8 _ _ _ _ _ _ _ _ _ _)
      |(with_reducible exact impl_ClassMembers.mono _ _ _ _)
      |(with_reducible exact impl_ClassOf.mono _ _ _ _)
      |(with_reducible exact impl_CyclotomicNumber.mono _ _ _ _ _)
      |(with_reducible exact impl_CyclotomicTable.mono _ _ _)
      |(with_reducible exact impl_DifferenceNumbers.mono _ _ _)
      |(with_reducible exact impl_IsDifferenceClass.mono _ _ _)
      |(with_reducible exact laws_hasInt.mono _ _ _)
      |(with_reducible exact laws_likeInts.mono _ _ _)
      |(with_reducible exact laws_rows9.mono _ _ _)
      |(with_reducible exact laws_sum.mono _ _)
      |(with_reducible exact spec_ClassMembers.mono _ _ _ _)
      |(with_reducible exact spec_ClassOf.mono _ _ _ _)
      |(with_reducible exact spec_CyclotomicNumber.mono _ _ _ _ _)
      |(with_reducible exact spec_CyclotomicTable.mono _ _ _)
      |(with_reducible exact spec_DifferenceNumbers.mono _ _ _)
      |(with_reducible exact spec_DrawClassMembers.mono _ _)
      |(with_reducible exact spec_DrawClassOf.mono _ _)
      |(with_reducible exact spec_DrawCyclotomicNumber.mono _ _)
      |(with_reducible exact spec_DrawCyclotomicTable.mono _ _)
      |(with_reducible exact spec_IsDifferenceClass.mono _ _ _)
      |(with_reducible exact LeO.refl _)
      |(with_reducible exact LeO.none _)
      |(with_reducible refine LeO.ite ?_ ?_)
      |(with_reducible refine LeO.bind ?_ (fun _=>?_))
      |exact ih0 _ _ _ _ _ _
      |exact ih1 _ _ _ _ _ _ _ _ _ _ _
      |exact ih2 _ _ _ _ _ _ _ _ _ _ _ _ _ _ _
      |exact ih3 _ _ _ _ _ _ _ _ _ _ _ _ _ _
      |exact ih4 _ _ _ _ _ _ _ _ _ _ _ _ _ _ _ _
      |exact ih5 _ _ _ _ _ _ _ _ _ _ _ _ _ _ _ _ _
      |exact ih6 _ _ _ _ _ _ _ _ _ _ _
      |exact ih7 _ _ _ _ _ _ _ _
      |exact ih8 _ _ _ _ _ _ _ _ _ _
      |exact impl_ClassMembers.mono _ _ _ _
      |exact impl_ClassOf.mono _ _ _ _
      |exact impl_CyclotomicNumber.mono _ _ _ _ _
      |exact impl_CyclotomicTable.mono _ _ _
      |exact impl_DifferenceNumbers.mono _ _ _
      |exact impl_IsDifferenceClass.mono _ _ _
      |exact laws_hasInt.mono _ _ _
      |exact laws_likeInts.mono _ _ _
      |exact laws_rows9.mono _ _ _
      |exact laws_sum.mono _ _
      |exact spec_ClassMembers.mono _ _ _ _
      |exact spec_ClassOf.mono _ _ _ _
      |exact spec_CyclotomicNumber.mono _ _ _ _ _
      |exact spec_CyclotomicTable.mono _ _ _
      |exact spec_DifferenceNumbers.mono _ _ _
      |exact spec_DrawClassMembers.mono _ _
      |exact spec_DrawClassOf.mono _ _
      |exact spec_DrawCyclotomicNumber.mono _ _
      |exact spec_DrawCyclotomicTable.mono _ _
      |exact spec_IsDifferenceClass.mono _ _ _
      |exact LeO.none _
      |refine LeO.ite ?_ ?_
      |refine LeO.bind ?_ (fun _=>?_)
theorem laws_FnPeriods.mono:∀a0 k,LeO (laws_FnPeriods.f k a0) (laws_FnPeriods.f (k+1) a0):=by
  intro a0 k;obtain⟨ih0,ih1,ih2,ih3,ih4,ih5,ih6,ih7,ih8⟩:=laws_FnPeriods.mono_l k;unfold laws_FnPeriods.f;repeat' first
      |(with_reducible exact ih0 _ _ _ _ _ _)
      |(with_reducible exact ih1 _ _ _ _ _ _ _ _ _ _ _)
      |(with_reducible exact ih2 _ _ _ _ _ _ _ _ _ _ _ _ _ _ _)
      |(with_reducible exact ih3 _ _ _ _ _ _ _ _ _ _ _ _ _ _)
      |(with_reducible exact ih4 _ _ _ _ _ _ _ _ _ _ _ _ _ _ _ _)
      |(with_reducible exact ih5 _ _ _ _ _ _ _ _ _ _ _ _ _ _ _ _ _)
      |(with_reducible exact ih6 _ _ _ _ _ _ _ _ _ _ _)
      |(with_reducible exact ih7 _ _ _ _ _ _ _ _)
      |(with_reducible exact ih8 _ _ _ _ _ _ _ _ _ _)
      |(with_reducible exact impl_ClassMembers.mono _ _ _ _)
      |(with_reducible exact impl_ClassOf.mono _ _ _ _)
      |(with_reducible exact impl_CyclotomicNumber.mono _ _ _ _ _)
      |(with_reducible exact impl_CyclotomicTable.mono _ _ _)
      |(with_reducible exact impl_DifferenceNumbers.mono _ _ _)
      |(with_reducible exact impl_IsDifferenceClass.mono _ _ _)
      |(with_reducible exact laws_hasInt.mono _ _ _)
      |(with_reducible exact laws_likeInts.mono _ _ _)
      |(with_reducible exact laws_rows9.mono _ _ _)
      |(with_reducible exact laws_sum.mono _ _)
      |(with_reducible exact spec_ClassMembers.mono _ _ _ _)
      |(with_reducible exact spec_ClassOf.mono _ _ _ _)
      |(with_reducible exact spec_CyclotomicNumber.mono _ _ _ _ _)
      |(with_reducible exact spec_CyclotomicTable.mono _ _ _)
      |(with_reducible exact spec_DifferenceNumbers.mono _ _ _)
      |(with_reducible exact spec_DrawClassMembers.mono _ _)
      |(with_reducible exact spec_DrawClassOf.mono _ _)
      |(with_reducible exact spec_DrawCyclotomicNumber.mono _ _)
      |(with_reducible exact spec_DrawCyclotomicTable.mono _ _)
      |(with_reducible exact spec_IsDifferenceClass.mono _ _ _)
      |(with_reducible exact LeO.refl _)
      |(with_reducible exact LeO.none _)
      |(with_reducible refine LeO.ite ?_ ?_)
      |(with_reducible refine LeO.bind ?_ (fun _=>?_))
      |exact ih0 _ _ _ _ _ _
      |exact ih1 _ _ _ _ _ _ _ _ _ _ _
      |exact ih2 _ _ _ _ _ _ _ _ _ _ _ _ _ _ _
      |exact ih3 _ _ _ _ _ _ _ _ _ _ _ _ _ _
      |exact ih4 _ _ _ _ _ _ _ _ _ _ _ _ _ _ _ _
      |exact ih5 _ _ _ _ _ _ _ _ _ _ _ _ _ _ _ _ _
      |exact ih6 _ _ _ _ _ _ _ _ _ _ _
      |exact ih7 _ _ _ _ _ _ _ _
      |exact ih8 _ _ _ _ _ _ _ _ _ _
      |exact impl_ClassMembers.mono _ _ _ _
      |exact impl_ClassOf.mono _ _ _ _
      |exact impl_CyclotomicNumber.mono _ _ _ _ _
      |exact impl_CyclotomicTable.mono _ _ _
      |exact impl_DifferenceNumbers.mono _ _ _
      |exact impl_IsDifferenceClass.mono _ _ _
      |exact laws_hasInt.mono _ _ _
      |exact laws_likeInts.mono _ _ _
      |exact laws_rows9.mono _ _ _
      |exact laws_sum.mono _ _
      |exact spec_ClassMembers.mono _ _ _ _
      |exact spec_ClassOf.mono _ _ _ _
      |exact spec_CyclotomicNumber.mono _ _ _ _ _
      |exact spec_CyclotomicTable.mono _ _ _
      |exact spec_DifferenceNumbers.mono _ _ _
      |exact spec_DrawClassMembers.mono _ _
      |exact spec_DrawClassOf.mono _ _
      |exact spec_DrawCyclotomicNumber.mono _ _
      |exact spec_DrawCyclotomicTable.mono _ _
      |exact spec_IsDifferenceClass.mono _ _ _
      |exact LeO.none _
      |refine LeO.ite ?_ ?_
      |refine LeO.bind ?_ (fun _=>?_)
-- TRUE ALONE
theorem laws_FnPeriods.j0_no (k:Nat) (y0:List Int) (y1:Int) (y2:Int) (y3:List (List Int)) (y4:Int) (h:laws_FnPeriods.j0 k y0 y1 y2 y3 y4 true=some true):False:=by
  cases k with
  |zero=>first|(simp only [laws_FnPeriods.j0] at h;done)|(simp only [laws_FnPeriods.j0] at h;cases h)
  |succ k=>rw [laws_FnPeriods.j0,if_pos rfl] at h;cases h
theorem laws_FnPeriods.j1_no (k:Nat) (y0:List Int) (y1:Int) (y2:Int) (y3:List (List Int)) (y4:Int) (y5:Int) (y6:Int) (y7:Int) (y8:Int) (y9:Int) (h:laws_FnPeriods.j1 k y0 y1 y2 y3 y4 y5 y6 y7 y8 y9 true=some true):False:=by
  cases k with
  |zero=>first|(simp only [laws_FnPeriods.j1] at h;done)|(simp only [laws_FnPeriods.j1] at h;cases h)
  |succ k=>rw [laws_FnPeriods.j1,if_pos rfl] at h;cases h
theorem laws_FnPeriods.j2_no (k:Nat) (y0:List Int) (y1:Int) (y2:Int) (y3:List (List Int)) (y4:Int) (y5:Int) (y6:Int) (y7:Int) (y8:Int) (y9:Int) (y10:Int) (y11:Int) (y12:List Int) (y13:Int) (h:laws_FnPeriods.j2 k y0 y1 y2 y3 y4 y5 y6 y7 y8 y9 y10 y11 y12 y13 true=some true):False:=by
  cases k with
  |zero=>first|(simp only [laws_FnPeriods.j2] at h;done)|(simp only [laws_FnPeriods.j2] at h;cases h)
  |succ k=>rw [laws_FnPeriods.j2,if_pos rfl] at h;cases h
theorem laws_FnPeriods.j3_no (k:Nat) (y0:Int) (y1:Int) (y2:List (List Int)) (y3:Int) (y4:Int) (y5:Int) (y6:Int) (y7:Int) (y8:Int) (y9:Int) (y10:Int) (y11:List Int) (y12:Int) (h:laws_FnPeriods.j3 k y0 y1 y2 y3 y4 y5 y6 y7 y8 y9 y10 y11 y12 true=some true):False:=by
  cases k with
  |zero=>first|(simp only [laws_FnPeriods.j3] at h;done)|(simp only [laws_FnPeriods.j3] at h;cases h)
  |succ k=>rw [laws_FnPeriods.j3,if_pos rfl] at h;cases h
theorem laws_FnPeriods.j4_no (k:Nat) (y0:Int) (y1:Int) (y2:List (List Int)) (y3:Int) (y4:Int) (y5:Int) (y6:Int) (y7:Int) (y8:Int) (y9:Int) (y10:Int) (y11:List Int) (y12:Int) (y13:List Int) (y14:Int) (h:laws_FnPeriods.j4 k y0 y1 y2 y3 y4 y5 y6 y7 y8 y9 y10 y11 y12 y13 y14 true=some true):False:=by
  cases k with
  |zero=>first|(simp only [laws_FnPeriods.j4] at h;done)|(simp only [laws_FnPeriods.j4] at h;cases h)
  |succ k=>rw [laws_FnPeriods.j4,if_pos rfl] at h;cases h
theorem laws_FnPeriods.j5_no (k:Nat) (y0:Int) (y1:Int) (y2:List (List Int)) (y3:Int) (y4:Int) (y5:Int) (y6:Int) (y7:Int) (y8:Int) (y9:Int) (y10:Int) (y11:List Int) (y12:Int) (y13:List Int) (y14:Int) (y15:Int) (h:laws_FnPeriods.j5 k y0 y1 y2 y3 y4 y5 y6 y7 y8 y9 y10 y11 y12 y13 y14 y15 true=some true):False:=by
  cases k with
  |zero=>first|(simp only [laws_FnPeriods.j5] at h;done)|(simp only [laws_FnPeriods.j5] at h;cases h)
  |succ k=>rw [laws_FnPeriods.j5,if_pos rfl] at h;cases h
theorem laws_FnPeriods.j7_no (k:Nat) (y0:Int) (y1:Int) (y2:List (List Int)) (y3:Int) (y4:List Int) (y5:Int) (y6:Int) (h:laws_FnPeriods.j7 k y0 y1 y2 y3 y4 y5 y6 true=some true):False:=by
  cases k with
  |zero=>first|(simp only [laws_FnPeriods.j7] at h;done)|(simp only [laws_FnPeriods.j7] at h;cases h)
  |succ k=>rw [laws_FnPeriods.j7,if_pos rfl] at h;cases h
-- LAW ENDS
set_option maxHeartbeats 8000000 in
set_option maxRecDepth 100000 in
theorem laws_FnPeriods.calls (k:Nat) (A0:Option Addr) (c0:Nat) (l0:List Int) (w:World) (hr0:Kd.C (Kd.int .u8) w A0 l0.length l0) (hc0:l0.length≤c0) (h:laws_FnPeriods.f k l0=some true):
    Calls Try.prog 8 #[.slice A0 l0.length c0] w fun e w'=>e=.returned (.bool true)∧Below w.heap.size w w':=by
  have HR0:=qAm hr0;have HC0:=qAm hc0;clear hr0 hc0;have HB:=qAm (Below.refl w.heap.size w);have H:((laws_big.f l0).bind fun t458=>(if t458=true then (some true) else ((spec_DrawCyclotomicTable.f k l0).bind fun bt459=>((impl_CyclotomicTable.f k bt459.1 bt459.2).bind fun bt461=>((spec_CyclotomicTable.f k bt459.1 bt459.2).bind fun bt465=>(if bt461.2=bt465.2 then ((laws_rows9.f k bt461.1 bt465.1).bind fun t469=>(laws_FnPeriods.j0 k l0 bt459.1 bt459.2 bt461.1 bt461.2 (!t469))) else (laws_FnPeriods.j0 k l0 bt459.1 bt459.2 bt461.1 bt461.2 true)))))))=some true:=h;clear h;replace H:=qOb H;obtain⟨t458,A20,H⟩:=H;replace H:(if t458=true then (some true) else ((spec_DrawCyclotomicTable.f k l0).bind fun bt459=>((impl_CyclotomicTable.f k bt459.1 bt459.2).bind fun bt461=>((spec_CyclotomicTable.f k bt459.1 bt459.2).bind fun bt465=>(if bt461.2=bt465.2 then ((laws_rows9.f k bt461.1 bt465.1).bind fun t469=>(laws_FnPeriods.j0 k l0 bt459.1 bt459.2 bt461.1 bt461.2 (!t469))) else (laws_FnPeriods.j0 k l0 bt459.1 bt459.2 bt461.1 bt461.2 true))))))=some true:=H;have A2:=qAm A20;clear A20
  by_cases c3:t458=true
  · subst c3
    have H1:(some true)=some true:=rfl;clear H;have H:=H1;clear H1 H;go_enter Try.func8,Try.ntmps8;go_wp2_with (first|(go_at_call 32;(with_reducible refine(laws_big.calls _ _ l0 true _ ?side1 ?side2 A2.1).mono ?_);(case side1=>repeat(first|exact HR0.1|(with_reducible refine Kd.C_alloc ?_ _)|(with_reducible refine Kd.C_drewN ?_ _)|(with_reducible refine Kd.C_drew ?_)));(case side2=>exact HC0.1);rintro e w' ⟨rfl,⟨nd,rfl⟩⟩;(try first|exact⟨rfl,_,World.drewN_drewN _ _ _⟩|exact⟨rfl,_,Eq.trans (World.drewN_drewN _ _ _) (congrArg (World.drewN _) (Nat.add_assoc _ _ _))⟩)));repeat(go_quiet (first|(go_at_call 32;(with_reducible refine(laws_big.calls _ _ l0 true _ ?side1 ?side2 A2.1).mono ?_);(case side1=>repeat(first|exact HR0.1|(with_reducible refine Kd.C_alloc ?_ _)|(with_reducible refine Kd.C_drewN ?_ _)|(with_reducible refine Kd.C_drew ?_)));(case side2=>exact HC0.1);rintro e w' ⟨rfl,⟨nd,rfl⟩⟩;(try first|exact⟨rfl,_,World.drewN_drewN _ _ _⟩|exact⟨rfl,_,Eq.trans (World.drewN_drewN _ _ _) (congrArg (World.drewN _) (Nat.add_assoc _ _ _))⟩)));try go_wp2_with (first|(go_at_call 32;(with_reducible refine(laws_big.calls _ _ l0 true _ ?side1 ?side2 A2.1).mono ?_);(case side1=>repeat(first|exact HR0.1|(with_reducible refine Kd.C_alloc ?_ _)|(with_reducible refine Kd.C_drewN ?_ _)|(with_reducible refine Kd.C_drew ?_)));(case side2=>exact HC0.1);rintro e w' ⟨rfl,⟨nd,rfl⟩⟩;(try first|exact⟨rfl,_,World.drewN_drewN _ _ _⟩|exact⟨rfl,_,Eq.trans (World.drewN_drewN _ _ _) (congrArg (World.drewN _) (Nat.add_assoc _ _ _))⟩))))
    go_ret;exact⟨by first|rfl|(simp [errW_none,errW_some] <;> rfl)|(simp [*,errW_none,errW_some] <;> rfl),by repeat(first|(with_reducible first|exact HB.1|apply below_alloc|apply pw_below_drewN|apply below_drew1)|exact HB.1)⟩
  · replace c3:=Bool.eq_false_iff.mpr c3
    subst c3;have H1:((spec_DrawCyclotomicTable.f k l0).bind fun bt459=>((impl_CyclotomicTable.f k bt459.1 bt459.2).bind fun bt461=>((spec_CyclotomicTable.f k bt459.1 bt459.2).bind fun bt465=>(if bt461.2=bt465.2 then ((laws_rows9.f k bt461.1 bt465.1).bind fun t469=>(laws_FnPeriods.j0 k l0 bt459.1 bt459.2 bt461.1 bt461.2 (!t469))) else (laws_FnPeriods.j0 k l0 bt459.1 bt459.2 bt461.1 bt461.2 true)))))=some true:=by rw [if_neg (show ¬(false=true) by decide)] at H;exact H
    clear H;have H:=H1;clear H1;replace H:=qOb H;obtain⟨⟨t459,t460⟩,A40,H⟩:=H;replace H:((impl_CyclotomicTable.f k t459 t460).bind fun bt461=>((spec_CyclotomicTable.f k t459 t460).bind fun bt465=>(if bt461.2=bt465.2 then ((laws_rows9.f k bt461.1 bt465.1).bind fun t469=>(laws_FnPeriods.j0 k l0 t459 t460 bt461.1 bt461.2 (!t469))) else (laws_FnPeriods.j0 k l0 t459 t460 bt461.1 bt461.2 true))))=some true:=H;have A4:=qAm A40;clear A40;replace H:=qOb H;obtain⟨⟨t461,t462⟩,A50,H⟩:=H;replace H:((spec_CyclotomicTable.f k t459 t460).bind fun bt465=>(if t462=bt465.2 then ((laws_rows9.f k t461 bt465.1).bind fun t469=>(laws_FnPeriods.j0 k l0 t459 t460 t461 t462 (!t469))) else (laws_FnPeriods.j0 k l0 t459 t460 t461 t462 true)))=some true:=H;have A5:=qAm A50;clear A50;replace H:=qOb H;obtain⟨⟨t465,t466⟩,A60,H⟩:=H;replace H:(if t462=t466 then ((laws_rows9.f k t461 t465).bind fun t469=>(laws_FnPeriods.j0 k l0 t459 t460 t461 t462 (!t469))) else (laws_FnPeriods.j0 k l0 t459 t460 t461 t462 true))=some true:=H;have A6:=qAm A60;clear A60;have HC7:=qAm H;clear H;go_enter Try.func8,Try.ntmps8;go_upto_region 6 with (first|(go_at_call 32;(with_reducible refine(laws_big.calls _ _ l0 false _ ?side1 ?side2 A2.1).mono ?_);(case side1=>repeat(first|exact HR0.1|(with_reducible refine Kd.C_alloc ?_ _)|(with_reducible refine Kd.C_drewN ?_ _)|(with_reducible refine Kd.C_drew ?_)));(case side2=>exact HC0.1);rintro e w' ⟨rfl,⟨nd,rfl⟩⟩;(try first|exact⟨rfl,_,World.drewN_drewN _ _ _⟩|exact⟨rfl,_,Eq.trans (World.drewN_drewN _ _ _) (congrArg (World.drewN _) (Nat.add_assoc _ _ _))⟩))|(go_at_call 33;(with_reducible refine(spec_DrawCyclotomicTable.calls k _ _ l0 t459 t460 _ ?side1 ?side2 A4.1).mono ?_);(case side1=>repeat(first|exact HR0.1|(with_reducible refine Kd.C_alloc ?_ _)|(with_reducible refine Kd.C_drewN ?_ _)|(with_reducible refine Kd.C_drew ?_)));(case side2=>exact HC0.1);rintro e w8 ⟨rfl,hb⟩;have n0_:=qAm (below_step qB23 hb);clear HB;have HB:=n0_;clear n0_;(try clear hb);(try clear hb2);(try clear hk);(try clear hi))|(go_at_call 34;(with_reducible refine(impl_CyclotomicTable.calls k t459 t460 t461 t462 _ A5.1).mono ?_);rintro e w9 ⟨v463,rfl,ho0,hb⟩;have n0_:=qAm (Kd.S_lower ho0 (below_size qB23));have n1_:=qAm (below_step qB23 hb);clear HB;have HO464:=n0_;have HB:=n1_;clear n0_ n1_;(try clear hb);(try clear hb2);(try clear hk);(try clear hi);(try clear ho0))|(go_at_call 35;(with_reducible refine(spec_CyclotomicTable.calls k t459 t460 t465 t466 _ A6.1).mono ?_);rintro e w10 ⟨v467,rfl,ho0,hb⟩;have n0_:=qAm (Kd.S_elder' qB44 (Kd.S_base ho0) hb);have n1_:=qAm (Kd.S_lower (Kd.S_new' ho0 (Kd.S_lt qB44)) (below_size qB23));have n2_:=qAm (below_step qB23 hb);clear HO464;clear HB;have HO464:=n0_;have HO468:=n1_;have HB:=n2_;clear n0_ n1_ n2_;(try clear hb);(try clear hb2);(try clear hk);(try clear hi);(try clear ho0)))
    repeat(go_quiet (first|(go_at_call 32;(with_reducible refine(laws_big.calls _ _ l0 false _ ?side1 ?side2 A2.1).mono ?_);(case side1=>repeat(first|exact HR0.1|(with_reducible refine Kd.C_alloc ?_ _)|(with_reducible refine Kd.C_drewN ?_ _)|(with_reducible refine Kd.C_drew ?_)));(case side2=>exact HC0.1);rintro e w' ⟨rfl,⟨nd,rfl⟩⟩;(try first|exact⟨rfl,_,World.drewN_drewN _ _ _⟩|exact⟨rfl,_,Eq.trans (World.drewN_drewN _ _ _) (congrArg (World.drewN _) (Nat.add_assoc _ _ _))⟩))|(go_at_call 33;(with_reducible refine(spec_DrawCyclotomicTable.calls k _ _ l0 t459 t460 _ ?side1 ?side2 A4.1).mono ?_);(case side1=>repeat(first|exact HR0.1|(with_reducible refine Kd.C_alloc ?_ _)|(with_reducible refine Kd.C_drewN ?_ _)|(with_reducible refine Kd.C_drew ?_)));(case side2=>exact HC0.1);rintro e w8 ⟨rfl,hb⟩;have n0_:=qAm (below_step qB23 hb);clear HB;have HB:=n0_;clear n0_;(try clear hb);(try clear hb2);(try clear hk);(try clear hi))|(go_at_call 34;(with_reducible refine(impl_CyclotomicTable.calls k t459 t460 t461 t462 _ A5.1).mono ?_);rintro e w9 ⟨v463,rfl,ho0,hb⟩;have n0_:=qAm (Kd.S_lower ho0 (below_size qB23));have n1_:=qAm (below_step qB23 hb);clear HB;have HO464:=n0_;have HB:=n1_;clear n0_ n1_;(try clear hb);(try clear hb2);(try clear hk);(try clear hi);(try clear ho0))|(go_at_call 35;(with_reducible refine(spec_CyclotomicTable.calls k t459 t460 t465 t466 _ A6.1).mono ?_);rintro e w10 ⟨v467,rfl,ho0,hb⟩;have n0_:=qAm (Kd.S_elder' qB44 (Kd.S_base ho0) hb);have n1_:=qAm (Kd.S_lower (Kd.S_new' ho0 (Kd.S_lt qB44)) (below_size qB23));have n2_:=qAm (below_step qB23 hb);clear HO464;clear HB;have HO464:=n0_;have HO468:=n1_;have HB:=n2_;clear n0_ n1_ n2_;(try clear hb);(try clear hb2);(try clear hk);(try clear hi);(try clear ho0)));go_upto_region 6 with (first|(go_at_call 32;(with_reducible refine(laws_big.calls _ _ l0 false _ ?side1 ?side2 A2.1).mono ?_);(case side1=>repeat(first|exact HR0.1|(with_reducible refine Kd.C_alloc ?_ _)|(with_reducible refine Kd.C_drewN ?_ _)|(with_reducible refine Kd.C_drew ?_)));(case side2=>exact HC0.1);rintro e w' ⟨rfl,⟨nd,rfl⟩⟩;(try first|exact⟨rfl,_,World.drewN_drewN _ _ _⟩|exact⟨rfl,_,Eq.trans (World.drewN_drewN _ _ _) (congrArg (World.drewN _) (Nat.add_assoc _ _ _))⟩))|(go_at_call 33;(with_reducible refine(spec_DrawCyclotomicTable.calls k _ _ l0 t459 t460 _ ?side1 ?side2 A4.1).mono ?_);(case side1=>repeat(first|exact HR0.1|(with_reducible refine Kd.C_alloc ?_ _)|(with_reducible refine Kd.C_drewN ?_ _)|(with_reducible refine Kd.C_drew ?_)));(case side2=>exact HC0.1);rintro e w8 ⟨rfl,hb⟩;have n0_:=qAm (below_step qB23 hb);clear HB;have HB:=n0_;clear n0_;(try clear hb);(try clear hb2);(try clear hk);(try clear hi))|(go_at_call 34;(with_reducible refine(impl_CyclotomicTable.calls k t459 t460 t461 t462 _ A5.1).mono ?_);rintro e w9 ⟨v463,rfl,ho0,hb⟩;have n0_:=qAm (Kd.S_lower ho0 (below_size qB23));have n1_:=qAm (below_step qB23 hb);clear HB;have HO464:=n0_;have HB:=n1_;clear n0_ n1_;(try clear hb);(try clear hb2);(try clear hk);(try clear hi);(try clear ho0))|(go_at_call 35;(with_reducible refine(spec_CyclotomicTable.calls k t459 t460 t465 t466 _ A6.1).mono ?_);rintro e w10 ⟨v467,rfl,ho0,hb⟩;have n0_:=qAm (Kd.S_elder' qB44 (Kd.S_base ho0) hb);have n1_:=qAm (Kd.S_lower (Kd.S_new' ho0 (Kd.S_lt qB44)) (below_size qB23));have n2_:=qAm (below_step qB23 hb);clear HO464;clear HB;have HO464:=n0_;have HO468:=n1_;have HB:=n2_;clear n0_ n1_ n2_;(try clear hb);(try clear hb2);(try clear hk);(try clear hi);(try clear ho0))))
    (try simp only [Act.put,qSa,qSb,qSc])
    go_cut [73] (fun v73 wc=>∃(kq:Nat) (x73_6:Bool),v73=.bool x73_6∧Aside0 (laws_FnPeriods.j0 kq l0 t459 t460 t461 t462 x73_6=some true)∧Aside0 (kq≤k)∧Aside0 (Kd.S (Kd.slice 2 (Kd.int .i64)) 22 wc w.heap.size (fun _=>True) v463 t461)∧Aside0 (Below w.heap.size w wc))
    case first=>as_aux_lemma=>
      have H:=HC7.1;clear HC7
      by_cases c11:t462=t466
      · rw [if_pos c11] at H
        have c11b0:(t462==t466)=true:=beq_iff_eq.mpr c11;have c11b1:(t462 !=t466)=false:=bne_eq_false_iff_eq.mpr c11;clear c11
        (first|rw [c11b0]|(simp only [i64_w,i32_w];rw [c11b0])|skip)
        replace H:=qOb H;obtain⟨t469,A120,H⟩:=H;replace H:(laws_FnPeriods.j0 k l0 t459 t460 t461 t462 (!t469))=some true:=H;have A12:=qAm A120;clear A120;have H':=qAm H;clear H;obtain⟨Ao13,co13,eo13⟩:=Kd.S_slice HO464.1;subst eo13;obtain⟨Ao14,co14,eo14⟩:=Kd.S_slice HO468.1;subst eo14;go_wp2_with (first|(go_at_call 36;(with_reducible refine(laws_rows9.calls k _ _ t461 _ _ t465 t469 _ ?side1 ?side2 ?side3 ?side4 A12.1).mono ?_);(case side1=>repeat(first|exact(Kd.S_reads' HO464.1).2.2|(with_reducible refine Kd.C_alloc ?_ _)|(with_reducible refine Kd.C_drewN ?_ _)|(with_reducible refine Kd.C_drew ?_)));(case side2=>exact(Kd.S_reads' HO464.1).2.1);(case side3=>repeat(first|exact(Kd.S_reads' HO468.1).2.2|(with_reducible refine Kd.C_alloc ?_ _)|(with_reducible refine Kd.C_drewN ?_ _)|(with_reducible refine Kd.C_drew ?_)));(case side4=>exact(Kd.S_reads' HO468.1).2.1);rintro e w' ⟨rfl,⟨nd,rfl⟩⟩;(try first|exact⟨rfl,_,World.drewN_drewN _ _ _⟩|exact⟨rfl,_,Eq.trans (World.drewN_drewN _ _ _) (congrArg (World.drewN _) (Nat.add_assoc _ _ _))⟩)));repeat(go_quiet (first|(go_at_call 36;(with_reducible refine(laws_rows9.calls k _ _ t461 _ _ t465 t469 _ ?side1 ?side2 ?side3 ?side4 A12.1).mono ?_);(case side1=>repeat(first|exact(Kd.S_reads' HO464.1).2.2|(with_reducible refine Kd.C_alloc ?_ _)|(with_reducible refine Kd.C_drewN ?_ _)|(with_reducible refine Kd.C_drew ?_)));(case side2=>exact(Kd.S_reads' HO464.1).2.1);(case side3=>repeat(first|exact(Kd.S_reads' HO468.1).2.2|(with_reducible refine Kd.C_alloc ?_ _)|(with_reducible refine Kd.C_drewN ?_ _)|(with_reducible refine Kd.C_drew ?_)));(case side4=>exact(Kd.S_reads' HO468.1).2.1);rintro e w' ⟨rfl,⟨nd,rfl⟩⟩;(try first|exact⟨rfl,_,World.drewN_drewN _ _ _⟩|exact⟨rfl,_,Eq.trans (World.drewN_drewN _ _ _) (congrArg (World.drewN _) (Nat.add_assoc _ _ _))⟩)));try go_wp2_with (first|(go_at_call 36;(with_reducible refine(laws_rows9.calls k _ _ t461 _ _ t465 t469 _ ?side1 ?side2 ?side3 ?side4 A12.1).mono ?_);(case side1=>repeat(first|exact(Kd.S_reads' HO464.1).2.2|(with_reducible refine Kd.C_alloc ?_ _)|(with_reducible refine Kd.C_drewN ?_ _)|(with_reducible refine Kd.C_drew ?_)));(case side2=>exact(Kd.S_reads' HO464.1).2.1);(case side3=>repeat(first|exact(Kd.S_reads' HO468.1).2.2|(with_reducible refine Kd.C_alloc ?_ _)|(with_reducible refine Kd.C_drewN ?_ _)|(with_reducible refine Kd.C_drew ?_)));(case side4=>exact(Kd.S_reads' HO468.1).2.1);rintro e w' ⟨rfl,⟨nd,rfl⟩⟩;(try first|exact⟨rfl,_,World.drewN_drewN _ _ _⟩|exact⟨rfl,_,Eq.trans (World.drewN_drewN _ _ _) (congrArg (World.drewN _) (Nat.add_assoc _ _ _))⟩))))
        go_meet
        case rel=>exact⟨_,(!t469),qB57,H',⟨by first|omega|exact Nat.le_refl _⟩,⟨by (with_reducible repeat(first|apply Kd.S_alloc|apply Kd.S_drewN|apply Kd.S_drew));exact Kd.S_mono HO464.1 (fun _ hk=>trivial)⟩,⟨by repeat(first|(with_reducible first|exact HB.1|apply below_alloc|apply pw_below_drewN|apply below_drew1)|exact HB.1)⟩⟩
      · rw [if_neg c11] at H
        exact(laws_FnPeriods.j0_no _ _ _ _ _ _ H).elim
    case rest=>as_aux_lemma=>
      clear HC7;try clear c1
      try clear p2
      try clear c3
      try clear c8
      try clear c11
      try clear c11b0
      try clear c11b1
      obtain⟨kq,x73_6,rfl,HA,HJ6,HO_5,HB⟩:=hcut;cases kq with
      |zero=>exact absurd HA.1 (by simp [laws_FnPeriods.j0])
      |succ kj6=>
        have H:=HA.1;clear HA;simp only [laws_FnPeriods.j0] at H
        by_cases c15:x73_6=true
        · subst c15
          have H1:(some false)=some true:=by rw [if_pos rfl] at H;exact H
          cases H1
        · replace c15:=Bool.eq_false_iff.mpr c15
          subst c15;have H1:((spec_DrawClassOf.f kj6 l0).bind fun bt470=>((impl_ClassOf.f kj6 bt470.1 bt470.2.1 bt470.2.2).bind fun bt473=>((spec_ClassOf.f kj6 bt470.1 bt470.2.1 bt470.2.2).bind fun bt475=>(if bt473.2=bt475.2 then (laws_FnPeriods.j1 kj6 l0 t459 t460 t461 t462 bt470.1 bt470.2.1 bt470.2.2 bt473.1 bt473.2 (bt473.1 !=bt475.1)) else (laws_FnPeriods.j1 kj6 l0 t459 t460 t461 t462 bt470.1 bt470.2.1 bt470.2.2 bt473.1 bt473.2 true)))))=some true:=by rw [if_neg (show ¬(false=true) by decide)] at H;exact H
          clear H;have H:=H1;clear H1;replace H:=qOb H;obtain⟨⟨t470,t471,t472⟩,A160,H⟩:=H;replace H:((impl_ClassOf.f kj6 t470 t471 t472).bind fun bt473=>((spec_ClassOf.f kj6 t470 t471 t472).bind fun bt475=>(if bt473.2=bt475.2 then (laws_FnPeriods.j1 kj6 l0 t459 t460 t461 t462 t470 t471 t472 bt473.1 bt473.2 (bt473.1 !=bt475.1)) else (laws_FnPeriods.j1 kj6 l0 t459 t460 t461 t462 t470 t471 t472 bt473.1 bt473.2 true))))=some true:=H;have A16:=qAm A160;clear A160;replace H:=qOb H;obtain⟨⟨t473,t474⟩,A170,H⟩:=H;replace H:((spec_ClassOf.f kj6 t470 t471 t472).bind fun bt475=>(if t474=bt475.2 then (laws_FnPeriods.j1 kj6 l0 t459 t460 t461 t462 t470 t471 t472 t473 t474 (t473 !=bt475.1)) else (laws_FnPeriods.j1 kj6 l0 t459 t460 t461 t462 t470 t471 t472 t473 t474 true)))=some true:=H;have A17:=qAm A170;clear A170;replace H:=qOb H;obtain⟨⟨t475,t476⟩,A180,H⟩:=H;replace H:(if t474=t476 then (laws_FnPeriods.j1 kj6 l0 t459 t460 t461 t462 t470 t471 t472 t473 t474 (t473 !=t475)) else (laws_FnPeriods.j1 kj6 l0 t459 t460 t461 t462 t470 t471 t472 t473 t474 true))=some true:=H;have A18:=qAm A180;clear A180;have HC19:=qAm H;clear H;go_upto_region 11 with (first|(go_at_call 37;(with_reducible refine(spec_DrawClassOf.calls kj6 _ _ l0 t470 t471 t472 _ ?side1 ?side2 A16.1).mono ?_);(case side1=>repeat(first|exact(Kd.C_below HR0.1 HB.1)|(with_reducible refine Kd.C_alloc ?_ _)|(with_reducible refine Kd.C_drewN ?_ _)|(with_reducible refine Kd.C_drew ?_)));(case side2=>exact HC0.1);rintro e w20 ⟨rfl,hb⟩;have n0_:=qAm (Kd.S_below qB52 hb);have n1_:=qAm (below_step qB23 hb);clear HO_5;clear HB;have HO_5:=n0_;have HB:=n1_;clear n0_ n1_;(try clear hb);(try clear hb2);(try clear hk);(try clear hi))|(go_at_call 38;(with_reducible refine(impl_ClassOf.calls kj6 t470 t471 t472 t473 t474 _ A17.1).mono ?_);rintro e w21 ⟨rfl,hb⟩;have n0_:=qAm (Kd.S_below qB52 hb);have n1_:=qAm (below_step qB23 hb);clear HO_5;clear HB;have HO_5:=n0_;have HB:=n1_;clear n0_ n1_;(try clear hb);(try clear hb2);(try clear hk);(try clear hi))|(go_at_call 39;(with_reducible refine(spec_ClassOf.calls kj6 t470 t471 t472 t475 t476 _ A18.1).mono ?_);rintro e w22 ⟨rfl,hb⟩;have n0_:=qAm (Kd.S_below qB52 hb);have n1_:=qAm (below_step qB23 hb);clear HO_5;clear HB;have HO_5:=n0_;have HB:=n1_;clear n0_ n1_;(try clear hb);(try clear hb2);(try clear hk);(try clear hi)))
          repeat(go_quiet (first|(go_at_call 37;(with_reducible refine(spec_DrawClassOf.calls kj6 _ _ l0 t470 t471 t472 _ ?side1 ?side2 A16.1).mono ?_);(case side1=>repeat(first|exact(Kd.C_below HR0.1 HB.1)|(with_reducible refine Kd.C_alloc ?_ _)|(with_reducible refine Kd.C_drewN ?_ _)|(with_reducible refine Kd.C_drew ?_)));(case side2=>exact HC0.1);rintro e w20 ⟨rfl,hb⟩;have n0_:=qAm (Kd.S_below qB52 hb);have n1_:=qAm (below_step qB23 hb);clear HO_5;clear HB;have HO_5:=n0_;have HB:=n1_;clear n0_ n1_;(try clear hb);(try clear hb2);(try clear hk);(try clear hi))|(go_at_call 38;(with_reducible refine(impl_ClassOf.calls kj6 t470 t471 t472 t473 t474 _ A17.1).mono ?_);rintro e w21 ⟨rfl,hb⟩;have n0_:=qAm (Kd.S_below qB52 hb);have n1_:=qAm (below_step qB23 hb);clear HO_5;clear HB;have HO_5:=n0_;have HB:=n1_;clear n0_ n1_;(try clear hb);(try clear hb2);(try clear hk);(try clear hi))|(go_at_call 39;(with_reducible refine(spec_ClassOf.calls kj6 t470 t471 t472 t475 t476 _ A18.1).mono ?_);rintro e w22 ⟨rfl,hb⟩;have n0_:=qAm (Kd.S_below qB52 hb);have n1_:=qAm (below_step qB23 hb);clear HO_5;clear HB;have HO_5:=n0_;have HB:=n1_;clear n0_ n1_;(try clear hb);(try clear hb2);(try clear hk);(try clear hi)));go_upto_region 11 with (first|(go_at_call 37;(with_reducible refine(spec_DrawClassOf.calls kj6 _ _ l0 t470 t471 t472 _ ?side1 ?side2 A16.1).mono ?_);(case side1=>repeat(first|exact(Kd.C_below HR0.1 HB.1)|(with_reducible refine Kd.C_alloc ?_ _)|(with_reducible refine Kd.C_drewN ?_ _)|(with_reducible refine Kd.C_drew ?_)));(case side2=>exact HC0.1);rintro e w20 ⟨rfl,hb⟩;have n0_:=qAm (Kd.S_below qB52 hb);have n1_:=qAm (below_step qB23 hb);clear HO_5;clear HB;have HO_5:=n0_;have HB:=n1_;clear n0_ n1_;(try clear hb);(try clear hb2);(try clear hk);(try clear hi))|(go_at_call 38;(with_reducible refine(impl_ClassOf.calls kj6 t470 t471 t472 t473 t474 _ A17.1).mono ?_);rintro e w21 ⟨rfl,hb⟩;have n0_:=qAm (Kd.S_below qB52 hb);have n1_:=qAm (below_step qB23 hb);clear HO_5;clear HB;have HO_5:=n0_;have HB:=n1_;clear n0_ n1_;(try clear hb);(try clear hb2);(try clear hk);(try clear hi))|(go_at_call 39;(with_reducible refine(spec_ClassOf.calls kj6 t470 t471 t472 t475 t476 _ A18.1).mono ?_);rintro e w22 ⟨rfl,hb⟩;have n0_:=qAm (Kd.S_below qB52 hb);have n1_:=qAm (below_step qB23 hb);clear HO_5;clear HB;have HO_5:=n0_;have HB:=n1_;clear n0_ n1_;(try clear hb);(try clear hb2);(try clear hk);(try clear hi))))
          (try simp only [Act.put,qSa,qSb,qSc])
          go_cut [101] (fun v101 wc=>∃(kq:Nat) (x101_18:Bool),v101=.bool x101_18∧Aside0 (laws_FnPeriods.j1 kq l0 t459 t460 t461 t462 t470 t471 t472 t473 t474 x101_18=some true)∧Aside0 (kq≤kj6)∧Aside0 (Kd.S (Kd.slice 2 (Kd.int .i64)) 22 wc w.heap.size (fun _=>True) v463 t461)∧Aside0 (Below w.heap.size w wc))
          case first=>as_aux_lemma=>
            have H:=HC19.1;clear HC19
            by_cases c23:t474=t476
            · rw [if_pos c23] at H
              have c23b0:(t474==t476)=true:=beq_iff_eq.mpr c23;have c23b1:(t474 !=t476)=false:=bne_eq_false_iff_eq.mpr c23;clear c23
              (first|rw [c23b0]|(simp only [i64_w,i32_w];rw [c23b0])|skip)
              have H':=qAm H;clear H;go_wp2;repeat(go_quiet (fail);try go_wp2)
              go_meet
              case rel=>exact⟨_,((t473 !=t475)),qB57,H',⟨by have:=HJ6.1;first|omega|exact Nat.le_refl _⟩,⟨by (with_reducible repeat(first|apply Kd.S_alloc|apply Kd.S_drewN|apply Kd.S_drew));exact HO_5.1⟩,⟨by repeat(first|(with_reducible first|exact HB.1|apply below_alloc|apply pw_below_drewN|apply below_drew1)|exact HB.1)⟩⟩
            · rw [if_neg c23] at H
              exact(laws_FnPeriods.j1_no _ _ _ _ _ _ _ _ _ _ _ H).elim
          case rest=>as_aux_lemma=>
            clear HC19;try clear c1
            try clear c2
            try clear p2
            try clear c3
            try clear c8
            try clear c11
            try clear c11b0
            try clear c11b1
            try clear c15
            try clear c23
            try clear c23b0
            try clear c23b1
            try clear p2
            obtain⟨kq,x101_18,rfl,HA,HJ18,HO_5,HB⟩:=hcut;cases kq with
            |zero=>exact absurd HA.1 (by simp [laws_FnPeriods.j1])
            |succ kj18=>
              have H:=HA.1;clear HA;simp only [laws_FnPeriods.j1] at H
              by_cases c24:x101_18=true
              · subst c24
                have H1:(some false)=some true:=by rw [if_pos rfl] at H;exact H
                cases H1
              · replace c24:=Bool.eq_false_iff.mpr c24
                subst c24;have H1:((spec_DrawClassMembers.f kj18 l0).bind fun bt477=>((impl_ClassMembers.f kj18 bt477.1 bt477.2.1 bt477.2.2).bind fun bt480=>((spec_ClassMembers.f kj18 bt477.1 bt477.2.1 bt477.2.2).bind fun bt484=>(if bt480.2=bt484.2 then ((laws_likeInts.f kj18 bt480.1 bt484.1).bind fun t488=>(laws_FnPeriods.j2 kj18 l0 t459 t460 t461 t462 t470 t471 t472 t473 t474 bt477.1 bt477.2.1 bt480.1 bt480.2 (!t488))) else (laws_FnPeriods.j2 kj18 l0 t459 t460 t461 t462 t470 t471 t472 t473 t474 bt477.1 bt477.2.1 bt480.1 bt480.2 true)))))=some true:=by rw [if_neg (show ¬(false=true) by decide)] at H;exact H
                clear H;have H:=H1;clear H1;replace H:=qOb H;obtain⟨⟨t477,t478,t479⟩,A250,H⟩:=H;replace H:((impl_ClassMembers.f kj18 t477 t478 t479).bind fun bt480=>((spec_ClassMembers.f kj18 t477 t478 t479).bind fun bt484=>(if bt480.2=bt484.2 then ((laws_likeInts.f kj18 bt480.1 bt484.1).bind fun t488=>(laws_FnPeriods.j2 kj18 l0 t459 t460 t461 t462 t470 t471 t472 t473 t474 t477 t478 bt480.1 bt480.2 (!t488))) else (laws_FnPeriods.j2 kj18 l0 t459 t460 t461 t462 t470 t471 t472 t473 t474 t477 t478 bt480.1 bt480.2 true))))=some true:=H;have A25:=qAm A250;clear A250;replace H:=qOb H;obtain⟨⟨t480,t481⟩,A260,H⟩:=H;replace H:((spec_ClassMembers.f kj18 t477 t478 t479).bind fun bt484=>(if t481=bt484.2 then ((laws_likeInts.f kj18 t480 bt484.1).bind fun t488=>(laws_FnPeriods.j2 kj18 l0 t459 t460 t461 t462 t470 t471 t472 t473 t474 t477 t478 t480 t481 (!t488))) else (laws_FnPeriods.j2 kj18 l0 t459 t460 t461 t462 t470 t471 t472 t473 t474 t477 t478 t480 t481 true)))=some true:=H;have A26:=qAm A260;clear A260;replace H:=qOb H;obtain⟨⟨t484,t485⟩,A270,H⟩:=H;replace H:(if t481=t485 then ((laws_likeInts.f kj18 t480 t484).bind fun t488=>(laws_FnPeriods.j2 kj18 l0 t459 t460 t461 t462 t470 t471 t472 t473 t474 t477 t478 t480 t481 (!t488))) else (laws_FnPeriods.j2 kj18 l0 t459 t460 t461 t462 t470 t471 t472 t473 t474 t477 t478 t480 t481 true))=some true:=H;have A27:=qAm A270;clear A270;have HC28:=qAm H;clear H;go_upto_region 16 with (first|(go_at_call 40;(with_reducible refine(spec_DrawClassMembers.calls kj18 _ _ l0 t477 t478 t479 _ ?side1 ?side2 A25.1).mono ?_);(case side1=>repeat(first|exact(Kd.C_below HR0.1 HB.1)|(with_reducible refine Kd.C_alloc ?_ _)|(with_reducible refine Kd.C_drewN ?_ _)|(with_reducible refine Kd.C_drew ?_)));(case side2=>exact HC0.1);rintro e w29 ⟨rfl,hb⟩;have n0_:=qAm (Kd.S_below qB52 hb);have n1_:=qAm (below_step qB23 hb);clear HO_5;clear HB;have HO_5:=n0_;have HB:=n1_;clear n0_ n1_;(try clear hb);(try clear hb2);(try clear hk);(try clear hi))|(go_at_call 41;(with_reducible refine(impl_ClassMembers.calls kj18 t477 t478 t479 t480 t481 _ A26.1).mono ?_);rintro e w30 ⟨v482,rfl,ho0,hb⟩;have n0_:=qAm (Kd.S_elder' qB52 (Kd.R_base ho0) hb);have n1_:=qAm (Kd.R_lower ho0 (below_size qB23));have n2_:=qAm (below_step qB23 hb);clear HO_5;clear HB;have HO_5:=n0_;have HO483:=n1_;have HB:=n2_;clear n0_ n1_ n2_;(try clear hb);(try clear hb2);(try clear hk);(try clear hi);(try clear ho0))|(go_at_call 42;(with_reducible refine(spec_ClassMembers.calls kj18 t477 t478 t479 t484 t485 _ A27.1).mono ?_);rintro e w31 ⟨v486,rfl,ho0,hb⟩;have n0_:=qAm (Kd.S_elder' qB52 (Kd.R_base ho0) hb);have n1_:=qAm (Kd.R_elder' qB45 (Kd.R_base ho0) hb);have n2_:=qAm (Kd.R_lower (Kd.R_new' ho0 (Kd.R_lt qB45)) (below_size qB23));have n3_:=qAm (below_step qB23 hb);clear HO_5;clear HO483;clear HB;have HO_5:=n0_;have HO483:=n1_;have HO487:=n2_;have HB:=n3_;clear n0_ n1_ n2_ n3_;(try clear hb);(try clear hb2);(try clear hk);(try clear hi);(try clear ho0)))
                repeat(go_quiet (first|(go_at_call 40;(with_reducible refine(spec_DrawClassMembers.calls kj18 _ _ l0 t477 t478 t479 _ ?side1 ?side2 A25.1).mono ?_);(case side1=>repeat(first|exact(Kd.C_below HR0.1 HB.1)|(with_reducible refine Kd.C_alloc ?_ _)|(with_reducible refine Kd.C_drewN ?_ _)|(with_reducible refine Kd.C_drew ?_)));(case side2=>exact HC0.1);rintro e w29 ⟨rfl,hb⟩;have n0_:=qAm (Kd.S_below qB52 hb);have n1_:=qAm (below_step qB23 hb);clear HO_5;clear HB;have HO_5:=n0_;have HB:=n1_;clear n0_ n1_;(try clear hb);(try clear hb2);(try clear hk);(try clear hi))|(go_at_call 41;(with_reducible refine(impl_ClassMembers.calls kj18 t477 t478 t479 t480 t481 _ A26.1).mono ?_);rintro e w30 ⟨v482,rfl,ho0,hb⟩;have n0_:=qAm (Kd.S_elder' qB52 (Kd.R_base ho0) hb);have n1_:=qAm (Kd.R_lower ho0 (below_size qB23));have n2_:=qAm (below_step qB23 hb);clear HO_5;clear HB;have HO_5:=n0_;have HO483:=n1_;have HB:=n2_;clear n0_ n1_ n2_;(try clear hb);(try clear hb2);(try clear hk);(try clear hi);(try clear ho0))|(go_at_call 42;(with_reducible refine(spec_ClassMembers.calls kj18 t477 t478 t479 t484 t485 _ A27.1).mono ?_);rintro e w31 ⟨v486,rfl,ho0,hb⟩;have n0_:=qAm (Kd.S_elder' qB52 (Kd.R_base ho0) hb);have n1_:=qAm (Kd.R_elder' qB45 (Kd.R_base ho0) hb);have n2_:=qAm (Kd.R_lower (Kd.R_new' ho0 (Kd.R_lt qB45)) (below_size qB23));have n3_:=qAm (below_step qB23 hb);clear HO_5;clear HO483;clear HB;have HO_5:=n0_;have HO483:=n1_;have HO487:=n2_;have HB:=n3_;clear n0_ n1_ n2_ n3_;(try clear hb);(try clear hb2);(try clear hk);(try clear hi);(try clear ho0)));go_upto_region 16 with (first|(go_at_call 40;(with_reducible refine(spec_DrawClassMembers.calls kj18 _ _ l0 t477 t478 t479 _ ?side1 ?side2 A25.1).mono ?_);(case side1=>repeat(first|exact(Kd.C_below HR0.1 HB.1)|(with_reducible refine Kd.C_alloc ?_ _)|(with_reducible refine Kd.C_drewN ?_ _)|(with_reducible refine Kd.C_drew ?_)));(case side2=>exact HC0.1);rintro e w29 ⟨rfl,hb⟩;have n0_:=qAm (Kd.S_below qB52 hb);have n1_:=qAm (below_step qB23 hb);clear HO_5;clear HB;have HO_5:=n0_;have HB:=n1_;clear n0_ n1_;(try clear hb);(try clear hb2);(try clear hk);(try clear hi))|(go_at_call 41;(with_reducible refine(impl_ClassMembers.calls kj18 t477 t478 t479 t480 t481 _ A26.1).mono ?_);rintro e w30 ⟨v482,rfl,ho0,hb⟩;have n0_:=qAm (Kd.S_elder' qB52 (Kd.R_base ho0) hb);have n1_:=qAm (Kd.R_lower ho0 (below_size qB23));have n2_:=qAm (below_step qB23 hb);clear HO_5;clear HB;have HO_5:=n0_;have HO483:=n1_;have HB:=n2_;clear n0_ n1_ n2_;(try clear hb);(try clear hb2);(try clear hk);(try clear hi);(try clear ho0))|(go_at_call 42;(with_reducible refine(spec_ClassMembers.calls kj18 t477 t478 t479 t484 t485 _ A27.1).mono ?_);rintro e w31 ⟨v486,rfl,ho0,hb⟩;have n0_:=qAm (Kd.S_elder' qB52 (Kd.R_base ho0) hb);have n1_:=qAm (Kd.R_elder' qB45 (Kd.R_base ho0) hb);have n2_:=qAm (Kd.R_lower (Kd.R_new' ho0 (Kd.R_lt qB45)) (below_size qB23));have n3_:=qAm (below_step qB23 hb);clear HO_5;clear HO483;clear HB;have HO_5:=n0_;have HO483:=n1_;have HO487:=n2_;have HB:=n3_;clear n0_ n1_ n2_ n3_;(try clear hb);(try clear hb2);(try clear hk);(try clear hi);(try clear ho0))))
                (try simp only [Act.put,qSa,qSb,qSc])
                go_cut [130] (fun v130 wc=>∃(kq:Nat) (x130_27:Bool),v130=.bool x130_27∧Aside0 (laws_FnPeriods.j2 kq l0 t459 t460 t461 t462 t470 t471 t472 t473 t474 t477 t478 t480 t481 x130_27=some true)∧Aside0 (kq≤kj18)∧Aside0 (Kd.S (Kd.slice 2 (Kd.int .i64)) 22 wc w.heap.size (fun k_=>some k_≠(v482:Value).ownBlock) v463 t461)∧Aside0 (Kd.R (Kd.int .i64) 2 wc w.heap.size (fun _=>True) v482 t480)∧Aside0 (Below w.heap.size w wc))
                case first=>as_aux_lemma=>
                  have H:=HC28.1;clear HC28
                  by_cases c32:t481=t485
                  · rw [if_pos c32] at H
                    have c32b0:(t481==t485)=true:=beq_iff_eq.mpr c32;have c32b1:(t481 !=t485)=false:=bne_eq_false_iff_eq.mpr c32;clear c32
                    (first|rw [c32b0]|(simp only [i64_w,i32_w];rw [c32b0])|skip)
                    replace H:=qOb H;obtain⟨t488,A330,H⟩:=H;replace H:(laws_FnPeriods.j2 kj18 l0 t459 t460 t461 t462 t470 t471 t472 t473 t474 t477 t478 t480 t481 (!t488))=some true:=H;have A33:=qAm A330;clear A330;have H':=qAm H;clear H;obtain⟨Ao34,co34,eo34⟩:=Kd.R_slice HO483.1;subst eo34;obtain⟨Ao35,co35,eo35⟩:=Kd.R_slice HO487.1;subst eo35;go_wp2_with (first|(go_at_call 43;(with_reducible refine(laws_likeInts.calls kj18 _ _ t480 _ _ t484 t488 _ ?side1 ?side2 ?side3 ?side4 A33.1).mono ?_);(case side1=>repeat(first|exact(Kd.R_reads' HO483.1).2.2|(with_reducible refine Kd.C_alloc ?_ _)|(with_reducible refine Kd.C_drewN ?_ _)|(with_reducible refine Kd.C_drew ?_)));(case side2=>exact(Kd.R_reads' HO483.1).2.1);(case side3=>repeat(first|exact(Kd.R_reads' HO487.1).2.2|(with_reducible refine Kd.C_alloc ?_ _)|(with_reducible refine Kd.C_drewN ?_ _)|(with_reducible refine Kd.C_drew ?_)));(case side4=>exact(Kd.R_reads' HO487.1).2.1);rintro e w' ⟨rfl,⟨nd,rfl⟩⟩;(try first|exact⟨rfl,_,World.drewN_drewN _ _ _⟩|exact⟨rfl,_,Eq.trans (World.drewN_drewN _ _ _) (congrArg (World.drewN _) (Nat.add_assoc _ _ _))⟩)));repeat(go_quiet (first|(go_at_call 43;(with_reducible refine(laws_likeInts.calls kj18 _ _ t480 _ _ t484 t488 _ ?side1 ?side2 ?side3 ?side4 A33.1).mono ?_);(case side1=>repeat(first|exact(Kd.R_reads' HO483.1).2.2|(with_reducible refine Kd.C_alloc ?_ _)|(with_reducible refine Kd.C_drewN ?_ _)|(with_reducible refine Kd.C_drew ?_)));(case side2=>exact(Kd.R_reads' HO483.1).2.1);(case side3=>repeat(first|exact(Kd.R_reads' HO487.1).2.2|(with_reducible refine Kd.C_alloc ?_ _)|(with_reducible refine Kd.C_drewN ?_ _)|(with_reducible refine Kd.C_drew ?_)));(case side4=>exact(Kd.R_reads' HO487.1).2.1);rintro e w' ⟨rfl,⟨nd,rfl⟩⟩;(try first|exact⟨rfl,_,World.drewN_drewN _ _ _⟩|exact⟨rfl,_,Eq.trans (World.drewN_drewN _ _ _) (congrArg (World.drewN _) (Nat.add_assoc _ _ _))⟩)));try go_wp2_with (first|(go_at_call 43;(with_reducible refine(laws_likeInts.calls kj18 _ _ t480 _ _ t484 t488 _ ?side1 ?side2 ?side3 ?side4 A33.1).mono ?_);(case side1=>repeat(first|exact(Kd.R_reads' HO483.1).2.2|(with_reducible refine Kd.C_alloc ?_ _)|(with_reducible refine Kd.C_drewN ?_ _)|(with_reducible refine Kd.C_drew ?_)));(case side2=>exact(Kd.R_reads' HO483.1).2.1);(case side3=>repeat(first|exact(Kd.R_reads' HO487.1).2.2|(with_reducible refine Kd.C_alloc ?_ _)|(with_reducible refine Kd.C_drewN ?_ _)|(with_reducible refine Kd.C_drew ?_)));(case side4=>exact(Kd.R_reads' HO487.1).2.1);rintro e w' ⟨rfl,⟨nd,rfl⟩⟩;(try first|exact⟨rfl,_,World.drewN_drewN _ _ _⟩|exact⟨rfl,_,Eq.trans (World.drewN_drewN _ _ _) (congrArg (World.drewN _) (Nat.add_assoc _ _ _))⟩))))
                    go_meet
                    case rel=>exact⟨_,(!t488),qB57,H',⟨by have:=HJ6.1;have:=HJ18.1;first|omega|exact Nat.le_refl _⟩,⟨by (with_reducible repeat(first|apply Kd.S_alloc|apply Kd.S_drewN|apply Kd.S_drew));exact Kd.S_mono HO_5.1 (fun _ hk=>hk.1.2)⟩,⟨by (with_reducible repeat(first|apply Kd.R_alloc|apply Kd.R_drewN|apply Kd.R_drew));exact Kd.R_mono HO483.1 (fun _ hk=>trivial)⟩,⟨by repeat(first|(with_reducible first|exact HB.1|apply below_alloc|apply pw_below_drewN|apply below_drew1)|exact HB.1)⟩⟩
                  · rw [if_neg c32] at H
                    exact(laws_FnPeriods.j2_no _ _ _ _ _ _ _ _ _ _ _ _ _ _ _ H).elim
                case rest=>as_aux_lemma=>
                  clear HC28;try clear c1
                  try clear c2
                  try clear p2
                  try clear c3
                  try clear c8
                  try clear c11
                  try clear c11b0
                  try clear c11b1
                  try clear c15
                  try clear c23
                  try clear c23b0
                  try clear c23b1
                  try clear c24
                  try clear c32
                  try clear c32b0
                  try clear c32b1
                  try clear p2
                  obtain⟨kq,x130_27,rfl,HA,HJ27,HO_5,HO_19,HB⟩:=hcut;cases kq with
                  |zero=>exact absurd HA.1 (by simp [laws_FnPeriods.j2])
                  |succ kj27=>
                    have H:=HA.1;clear HA;simp only [laws_FnPeriods.j2] at H
                    by_cases c36:x130_27=true
                    · subst c36
                      have H1:(some false)=some true:=by rw [if_pos rfl] at H;exact H
                      cases H1
                    · replace c36:=Bool.eq_false_iff.mpr c36
                      subst c36;have H1:((spec_DrawCyclotomicNumber.f kj27 l0).bind fun bt489=>((impl_CyclotomicNumber.f kj27 bt489.1 bt489.2.1 bt489.2.2.1 bt489.2.2.2).bind fun bt493=>((spec_CyclotomicNumber.f kj27 bt489.1 bt489.2.1 bt489.2.2.1 bt489.2.2.2).bind fun bt495=>(if bt493.2=bt495.2 then (laws_FnPeriods.j3 kj27 t459 t460 t461 t462 t470 t471 t472 t473 t474 t477 t478 t480 t481 (bt493.1 !=bt495.1)) else (laws_FnPeriods.j3 kj27 t459 t460 t461 t462 t470 t471 t472 t473 t474 t477 t478 t480 t481 true)))))=some true:=by rw [if_neg (show ¬(false=true) by decide)] at H;exact H
                      clear H;have H:=H1;clear H1;replace H:=qOb H;obtain⟨⟨t489,t490,t491,t492⟩,A370,H⟩:=H;replace H:((impl_CyclotomicNumber.f kj27 t489 t490 t491 t492).bind fun bt493=>((spec_CyclotomicNumber.f kj27 t489 t490 t491 t492).bind fun bt495=>(if bt493.2=bt495.2 then (laws_FnPeriods.j3 kj27 t459 t460 t461 t462 t470 t471 t472 t473 t474 t477 t478 t480 t481 (bt493.1 !=bt495.1)) else (laws_FnPeriods.j3 kj27 t459 t460 t461 t462 t470 t471 t472 t473 t474 t477 t478 t480 t481 true))))=some true:=H;have A37:=qAm A370;clear A370;replace H:=qOb H;obtain⟨⟨t493,t494⟩,A380,H⟩:=H;replace H:((spec_CyclotomicNumber.f kj27 t489 t490 t491 t492).bind fun bt495=>(if t494=bt495.2 then (laws_FnPeriods.j3 kj27 t459 t460 t461 t462 t470 t471 t472 t473 t474 t477 t478 t480 t481 (t493 !=bt495.1)) else (laws_FnPeriods.j3 kj27 t459 t460 t461 t462 t470 t471 t472 t473 t474 t477 t478 t480 t481 true)))=some true:=H;have A38:=qAm A380;clear A380;replace H:=qOb H;obtain⟨⟨t495,t496⟩,A390,H⟩:=H;replace H:(if t494=t496 then (laws_FnPeriods.j3 kj27 t459 t460 t461 t462 t470 t471 t472 t473 t474 t477 t478 t480 t481 (t493 !=t495)) else (laws_FnPeriods.j3 kj27 t459 t460 t461 t462 t470 t471 t472 t473 t474 t477 t478 t480 t481 true))=some true:=H;have A39:=qAm A390;clear A390;have HC40:=qAm H;clear H;go_upto_region 21 with (first|(go_at_call 44;(with_reducible refine(spec_DrawCyclotomicNumber.calls kj27 _ _ l0 t489 t490 t491 t492 _ ?side1 ?side2 A37.1).mono ?_);(case side1=>repeat(first|exact(Kd.C_below HR0.1 HB.1)|(with_reducible refine Kd.C_alloc ?_ _)|(with_reducible refine Kd.C_drewN ?_ _)|(with_reducible refine Kd.C_drew ?_)));(case side2=>exact HC0.1);rintro e w41 ⟨rfl,hb⟩;have n0_:=qAm (Kd.S_below qB52 hb);have n1_:=qAm (Kd.R_below qB46 hb);have n2_:=qAm (below_step qB23 hb);clear HO_5;clear HO_19;clear HB;have HO_5:=n0_;have HO_19:=n1_;have HB:=n2_;clear n0_ n1_ n2_;(try clear hb);(try clear hb2);(try clear hk);(try clear hi))|(go_at_call 45;(with_reducible refine(impl_CyclotomicNumber.calls kj27 t489 t490 t491 t492 t493 t494 _ A38.1).mono ?_);rintro e w42 ⟨rfl,hb⟩;have n0_:=qAm (Kd.S_below qB52 hb);have n1_:=qAm (Kd.R_below qB46 hb);have n2_:=qAm (below_step qB23 hb);clear HO_5;clear HO_19;clear HB;have HO_5:=n0_;have HO_19:=n1_;have HB:=n2_;clear n0_ n1_ n2_;(try clear hb);(try clear hb2);(try clear hk);(try clear hi))|(go_at_call 46;(with_reducible refine(spec_CyclotomicNumber.calls kj27 t489 t490 t491 t492 t495 t496 _ A39.1).mono ?_);rintro e w43 ⟨rfl,hb⟩;have n0_:=qAm (Kd.S_below qB52 hb);have n1_:=qAm (Kd.R_below qB46 hb);have n2_:=qAm (below_step qB23 hb);clear HO_5;clear HO_19;clear HB;have HO_5:=n0_;have HO_19:=n1_;have HB:=n2_;clear n0_ n1_ n2_;(try clear hb);(try clear hb2);(try clear hk);(try clear hi)))
                      repeat(go_quiet (first|(go_at_call 44;(with_reducible refine(spec_DrawCyclotomicNumber.calls kj27 _ _ l0 t489 t490 t491 t492 _ ?side1 ?side2 A37.1).mono ?_);(case side1=>repeat(first|exact(Kd.C_below HR0.1 HB.1)|(with_reducible refine Kd.C_alloc ?_ _)|(with_reducible refine Kd.C_drewN ?_ _)|(with_reducible refine Kd.C_drew ?_)));(case side2=>exact HC0.1);rintro e w41 ⟨rfl,hb⟩;have n0_:=qAm (Kd.S_below qB52 hb);have n1_:=qAm (Kd.R_below qB46 hb);have n2_:=qAm (below_step qB23 hb);clear HO_5;clear HO_19;clear HB;have HO_5:=n0_;have HO_19:=n1_;have HB:=n2_;clear n0_ n1_ n2_;(try clear hb);(try clear hb2);(try clear hk);(try clear hi))|(go_at_call 45;(with_reducible refine(impl_CyclotomicNumber.calls kj27 t489 t490 t491 t492 t493 t494 _ A38.1).mono ?_);rintro e w42 ⟨rfl,hb⟩;have n0_:=qAm (Kd.S_below qB52 hb);have n1_:=qAm (Kd.R_below qB46 hb);have n2_:=qAm (below_step qB23 hb);clear HO_5;clear HO_19;clear HB;have HO_5:=n0_;have HO_19:=n1_;have HB:=n2_;clear n0_ n1_ n2_;(try clear hb);(try clear hb2);(try clear hk);(try clear hi))|(go_at_call 46;(with_reducible refine(spec_CyclotomicNumber.calls kj27 t489 t490 t491 t492 t495 t496 _ A39.1).mono ?_);rintro e w43 ⟨rfl,hb⟩;have n0_:=qAm (Kd.S_below qB52 hb);have n1_:=qAm (Kd.R_below qB46 hb);have n2_:=qAm (below_step qB23 hb);clear HO_5;clear HO_19;clear HB;have HO_5:=n0_;have HO_19:=n1_;have HB:=n2_;clear n0_ n1_ n2_;(try clear hb);(try clear hb2);(try clear hk);(try clear hi)));go_upto_region 21 with (first|(go_at_call 44;(with_reducible refine(spec_DrawCyclotomicNumber.calls kj27 _ _ l0 t489 t490 t491 t492 _ ?side1 ?side2 A37.1).mono ?_);(case side1=>repeat(first|exact(Kd.C_below HR0.1 HB.1)|(with_reducible refine Kd.C_alloc ?_ _)|(with_reducible refine Kd.C_drewN ?_ _)|(with_reducible refine Kd.C_drew ?_)));(case side2=>exact HC0.1);rintro e w41 ⟨rfl,hb⟩;have n0_:=qAm (Kd.S_below qB52 hb);have n1_:=qAm (Kd.R_below qB46 hb);have n2_:=qAm (below_step qB23 hb);clear HO_5;clear HO_19;clear HB;have HO_5:=n0_;have HO_19:=n1_;have HB:=n2_;clear n0_ n1_ n2_;(try clear hb);(try clear hb2);(try clear hk);(try clear hi))|(go_at_call 45;(with_reducible refine(impl_CyclotomicNumber.calls kj27 t489 t490 t491 t492 t493 t494 _ A38.1).mono ?_);rintro e w42 ⟨rfl,hb⟩;have n0_:=qAm (Kd.S_below qB52 hb);have n1_:=qAm (Kd.R_below qB46 hb);have n2_:=qAm (below_step qB23 hb);clear HO_5;clear HO_19;clear HB;have HO_5:=n0_;have HO_19:=n1_;have HB:=n2_;clear n0_ n1_ n2_;(try clear hb);(try clear hb2);(try clear hk);(try clear hi))|(go_at_call 46;(with_reducible refine(spec_CyclotomicNumber.calls kj27 t489 t490 t491 t492 t495 t496 _ A39.1).mono ?_);rintro e w43 ⟨rfl,hb⟩;have n0_:=qAm (Kd.S_below qB52 hb);have n1_:=qAm (Kd.R_below qB46 hb);have n2_:=qAm (below_step qB23 hb);clear HO_5;clear HO_19;clear HB;have HO_5:=n0_;have HO_19:=n1_;have HB:=n2_;clear n0_ n1_ n2_;(try clear hb);(try clear hb2);(try clear hk);(try clear hi))))
                      (try simp only [Act.put,qSa,qSb,qSc])
                      go_cut [161] (fun v161 wc=>∃(kq:Nat) (x161_39:Bool),v161=.bool x161_39∧Aside0 (laws_FnPeriods.j3 kq t459 t460 t461 t462 t470 t471 t472 t473 t474 t477 t478 t480 t481 x161_39=some true)∧Aside0 (kq≤kj27)∧Aside0 (Kd.S (Kd.slice 2 (Kd.int .i64)) 22 wc w.heap.size (fun k_=>some k_≠(v482:Value).ownBlock) v463 t461)∧Aside0 (Kd.R (Kd.int .i64) 2 wc w.heap.size (fun _=>True) v482 t480)∧Aside0 (Below w.heap.size w wc))
                      case first=>as_aux_lemma=>
                        have H:=HC40.1;clear HC40
                        by_cases c44:t494=t496
                        · rw [if_pos c44] at H
                          have c44b0:(t494==t496)=true:=beq_iff_eq.mpr c44;have c44b1:(t494 !=t496)=false:=bne_eq_false_iff_eq.mpr c44;clear c44
                          (first|rw [c44b0]|(simp only [i64_w,i32_w];rw [c44b0])|skip)
                          have H':=qAm H;clear H;go_wp2;repeat(go_quiet (fail);try go_wp2)
                          go_meet
                          case rel=>exact⟨_,((t493 !=t495)),qB57,H',⟨by have:=HJ6.1;have:=HJ18.1;have:=HJ27.1;first|omega|exact Nat.le_refl _⟩,⟨by (with_reducible repeat(first|apply Kd.S_alloc|apply Kd.S_drewN|apply Kd.S_drew));exact HO_5.1⟩,⟨by (with_reducible repeat(first|apply Kd.R_alloc|apply Kd.R_drewN|apply Kd.R_drew));exact HO_19.1⟩,⟨by repeat(first|(with_reducible first|exact HB.1|apply below_alloc|apply pw_below_drewN|apply below_drew1)|exact HB.1)⟩⟩
                        · rw [if_neg c44] at H
                          exact(laws_FnPeriods.j3_no _ _ _ _ _ _ _ _ _ _ _ _ _ _ H).elim
                      case rest=>as_aux_lemma=>
                        clear HC40;try clear c1
                        try clear c2
                        try clear p2
                        try clear c3
                        try clear c4
                        try clear c8
                        try clear c11
                        try clear c11b0
                        try clear c11b1
                        try clear c15
                        try clear c23
                        try clear c23b0
                        try clear c23b1
                        try clear c24
                        try clear c32
                        try clear c32b0
                        try clear c32b1
                        try clear c36
                        try clear c44
                        try clear c44b0
                        try clear c44b1
                        try clear p2
                        obtain⟨kq,x161_39,rfl,HA,HJ39,HO_5,HO_19,HB⟩:=hcut;cases kq with
                        |zero=>exact absurd HA.1 (by simp [laws_FnPeriods.j3])
                        |succ kj39=>
                          have H:=HA.1;clear HA;simp only [laws_FnPeriods.j3] at H
                          by_cases c45:x161_39=true
                          · subst c45
                            have H1:(some false)=some true:=by rw [if_pos rfl] at H;exact H
                            cases H1
                          · replace c45:=Bool.eq_false_iff.mpr c45
                            subst c45;have H1:((impl_DifferenceNumbers.f kj39 t459 t460).bind fun bt497=>((spec_DifferenceNumbers.f kj39 t459 t460).bind fun bt501=>(if bt497.2=bt501.2 then ((laws_likeInts.f kj39 bt497.1 bt501.1).bind fun t505=>(laws_FnPeriods.j4 kj39 t459 t460 t461 t462 t470 t471 t472 t473 t474 t477 t478 t480 t481 bt497.1 bt497.2 (!t505))) else (laws_FnPeriods.j4 kj39 t459 t460 t461 t462 t470 t471 t472 t473 t474 t477 t478 t480 t481 bt497.1 bt497.2 true))))=some true:=by rw [if_neg (show ¬(false=true) by decide)] at H;exact H
                            clear H;have H:=H1;clear H1;replace H:=qOb H;obtain⟨⟨t497,t498⟩,A460,H⟩:=H;replace H:((spec_DifferenceNumbers.f kj39 t459 t460).bind fun bt501=>(if t498=bt501.2 then ((laws_likeInts.f kj39 t497 bt501.1).bind fun t505=>(laws_FnPeriods.j4 kj39 t459 t460 t461 t462 t470 t471 t472 t473 t474 t477 t478 t480 t481 t497 t498 (!t505))) else (laws_FnPeriods.j4 kj39 t459 t460 t461 t462 t470 t471 t472 t473 t474 t477 t478 t480 t481 t497 t498 true)))=some true:=H;have A46:=qAm A460;clear A460;replace H:=qOb H;obtain⟨⟨t501,t502⟩,A470,H⟩:=H;replace H:(if t498=t502 then ((laws_likeInts.f kj39 t497 t501).bind fun t505=>(laws_FnPeriods.j4 kj39 t459 t460 t461 t462 t470 t471 t472 t473 t474 t477 t478 t480 t481 t497 t498 (!t505))) else (laws_FnPeriods.j4 kj39 t459 t460 t461 t462 t470 t471 t472 t473 t474 t477 t478 t480 t481 t497 t498 true))=some true:=H;have A47:=qAm A470;clear A470;have HC48:=qAm H;clear H;go_upto_region 25 with (first|(go_at_call 47;(with_reducible refine(impl_DifferenceNumbers.calls kj39 t459 t460 t497 t498 _ A46.1).mono ?_);rintro e w49 ⟨v499,rfl,ho0,hb⟩;have n0_:=qAm (Kd.S_elder' qB52 (Kd.R_base ho0) hb);have n1_:=qAm (Kd.R_elder' qB46 (Kd.R_base ho0) hb);have n2_:=qAm (Kd.R_lower (Kd.R_new' ho0 (Kd.R_lt qB46)) (below_size qB23));have n3_:=qAm (below_step qB23 hb);clear HO_5;clear HO_19;clear HB;have HO_5:=n0_;have HO_19:=n1_;have HO500:=n2_;have HB:=n3_;clear n0_ n1_ n2_ n3_;(try clear hb);(try clear hb2);(try clear hk);(try clear hi);(try clear ho0))|(go_at_call 48;(with_reducible refine(spec_DifferenceNumbers.calls kj39 t459 t460 t501 t502 _ A47.1).mono ?_);rintro e w50 ⟨v503,rfl,ho0,hb⟩;have n0_:=qAm (Kd.S_elder' qB52 (Kd.R_base ho0) hb);have n1_:=qAm (Kd.R_elder' qB46 (Kd.R_base ho0) hb);have n2_:=qAm (Kd.R_elder' qB47 (Kd.R_base ho0) hb);have n3_:=qAm (Kd.R_lower (Kd.R_new' (Kd.R_new' ho0 (Kd.R_lt qB46)) (Kd.R_lt qB47)) (below_size qB23));have n4_:=qAm (below_step qB23 hb);clear HO_5;clear HO_19;clear HO500;clear HB;have HO_5:=n0_;have HO_19:=n1_;have HO500:=n2_;have HO504:=n3_;have HB:=n4_;clear n0_ n1_ n2_ n3_ n4_;(try clear hb);(try clear hb2);(try clear hk);(try clear hi);(try clear ho0)))
                            repeat(go_quiet (first|(go_at_call 47;(with_reducible refine(impl_DifferenceNumbers.calls kj39 t459 t460 t497 t498 _ A46.1).mono ?_);rintro e w49 ⟨v499,rfl,ho0,hb⟩;have n0_:=qAm (Kd.S_elder' qB52 (Kd.R_base ho0) hb);have n1_:=qAm (Kd.R_elder' qB46 (Kd.R_base ho0) hb);have n2_:=qAm (Kd.R_lower (Kd.R_new' ho0 (Kd.R_lt qB46)) (below_size qB23));have n3_:=qAm (below_step qB23 hb);clear HO_5;clear HO_19;clear HB;have HO_5:=n0_;have HO_19:=n1_;have HO500:=n2_;have HB:=n3_;clear n0_ n1_ n2_ n3_;(try clear hb);(try clear hb2);(try clear hk);(try clear hi);(try clear ho0))|(go_at_call 48;(with_reducible refine(spec_DifferenceNumbers.calls kj39 t459 t460 t501 t502 _ A47.1).mono ?_);rintro e w50 ⟨v503,rfl,ho0,hb⟩;have n0_:=qAm (Kd.S_elder' qB52 (Kd.R_base ho0) hb);have n1_:=qAm (Kd.R_elder' qB46 (Kd.R_base ho0) hb);have n2_:=qAm (Kd.R_elder' qB47 (Kd.R_base ho0) hb);have n3_:=qAm (Kd.R_lower (Kd.R_new' (Kd.R_new' ho0 (Kd.R_lt qB46)) (Kd.R_lt qB47)) (below_size qB23));have n4_:=qAm (below_step qB23 hb);clear HO_5;clear HO_19;clear HO500;clear HB;have HO_5:=n0_;have HO_19:=n1_;have HO500:=n2_;have HO504:=n3_;have HB:=n4_;clear n0_ n1_ n2_ n3_ n4_;(try clear hb);(try clear hb2);(try clear hk);(try clear hi);(try clear ho0)));go_upto_region 25 with (first|(go_at_call 47;(with_reducible refine(impl_DifferenceNumbers.calls kj39 t459 t460 t497 t498 _ A46.1).mono ?_);rintro e w49 ⟨v499,rfl,ho0,hb⟩;have n0_:=qAm (Kd.S_elder' qB52 (Kd.R_base ho0) hb);have n1_:=qAm (Kd.R_elder' qB46 (Kd.R_base ho0) hb);have n2_:=qAm (Kd.R_lower (Kd.R_new' ho0 (Kd.R_lt qB46)) (below_size qB23));have n3_:=qAm (below_step qB23 hb);clear HO_5;clear HO_19;clear HB;have HO_5:=n0_;have HO_19:=n1_;have HO500:=n2_;have HB:=n3_;clear n0_ n1_ n2_ n3_;(try clear hb);(try clear hb2);(try clear hk);(try clear hi);(try clear ho0))|(go_at_call 48;(with_reducible refine(spec_DifferenceNumbers.calls kj39 t459 t460 t501 t502 _ A47.1).mono ?_);rintro e w50 ⟨v503,rfl,ho0,hb⟩;have n0_:=qAm (Kd.S_elder' qB52 (Kd.R_base ho0) hb);have n1_:=qAm (Kd.R_elder' qB46 (Kd.R_base ho0) hb);have n2_:=qAm (Kd.R_elder' qB47 (Kd.R_base ho0) hb);have n3_:=qAm (Kd.R_lower (Kd.R_new' (Kd.R_new' ho0 (Kd.R_lt qB46)) (Kd.R_lt qB47)) (below_size qB23));have n4_:=qAm (below_step qB23 hb);clear HO_5;clear HO_19;clear HO500;clear HB;have HO_5:=n0_;have HO_19:=n1_;have HO500:=n2_;have HO504:=n3_;have HB:=n4_;clear n0_ n1_ n2_ n3_ n4_;(try clear hb);(try clear hb2);(try clear hk);(try clear hi);(try clear ho0))))
                            (try simp only [Act.put,qSa,qSb,qSc])
                            go_cut [182] (fun v182 wc=>∃(kq:Nat) (x182_47:Bool),v182=.bool x182_47∧Aside0 (laws_FnPeriods.j4 kq t459 t460 t461 t462 t470 t471 t472 t473 t474 t477 t478 t480 t481 t497 t498 x182_47=some true)∧Aside0 (kq≤kj39)∧Aside0 (Kd.S (Kd.slice 2 (Kd.int .i64)) 22 wc w.heap.size (fun k_=>some k_≠(v482:Value).ownBlock∧some k_≠(v499:Value).ownBlock) v463 t461)∧Aside0 (Kd.R (Kd.int .i64) 2 wc w.heap.size (fun k_=>some k_≠(v499:Value).ownBlock) v482 t480)∧Aside0 (Kd.R (Kd.int .i64) 2 wc w.heap.size (fun k_=>some k_≠(v482:Value).ownBlock) v499 t497)∧Aside0 (Below w.heap.size w wc))
                            case first=>as_aux_lemma=>
                              have H:=HC48.1;clear HC48
                              by_cases c51:t498=t502
                              · rw [if_pos c51] at H
                                have c51b0:(t498==t502)=true:=beq_iff_eq.mpr c51;have c51b1:(t498 !=t502)=false:=bne_eq_false_iff_eq.mpr c51;clear c51
                                (first|rw [c51b0]|(simp only [i64_w,i32_w];rw [c51b0])|skip)
                                replace H:=qOb H;obtain⟨t505,A520,H⟩:=H;replace H:(laws_FnPeriods.j4 kj39 t459 t460 t461 t462 t470 t471 t472 t473 t474 t477 t478 t480 t481 t497 t498 (!t505))=some true:=H;have A52:=qAm A520;clear A520;have H':=qAm H;clear H;obtain⟨Ao53,co53,eo53⟩:=Kd.R_slice HO500.1;subst eo53;obtain⟨Ao54,co54,eo54⟩:=Kd.R_slice HO504.1;subst eo54;go_wp2_with (first|(go_at_call 43;(with_reducible refine(laws_likeInts.calls kj39 _ _ t497 _ _ t501 t505 _ ?side1 ?side2 ?side3 ?side4 A52.1).mono ?_);(case side1=>repeat(first|exact(Kd.R_reads' HO500.1).2.2|(with_reducible refine Kd.C_alloc ?_ _)|(with_reducible refine Kd.C_drewN ?_ _)|(with_reducible refine Kd.C_drew ?_)));(case side2=>exact(Kd.R_reads' HO500.1).2.1);(case side3=>repeat(first|exact(Kd.R_reads' HO504.1).2.2|(with_reducible refine Kd.C_alloc ?_ _)|(with_reducible refine Kd.C_drewN ?_ _)|(with_reducible refine Kd.C_drew ?_)));(case side4=>exact(Kd.R_reads' HO504.1).2.1);rintro e w' ⟨rfl,⟨nd,rfl⟩⟩;(try first|exact⟨rfl,_,World.drewN_drewN _ _ _⟩|exact⟨rfl,_,Eq.trans (World.drewN_drewN _ _ _) (congrArg (World.drewN _) (Nat.add_assoc _ _ _))⟩)));repeat(go_quiet (first|(go_at_call 43;(with_reducible refine(laws_likeInts.calls kj39 _ _ t497 _ _ t501 t505 _ ?side1 ?side2 ?side3 ?side4 A52.1).mono ?_);(case side1=>repeat(first|exact(Kd.R_reads' HO500.1).2.2|(with_reducible refine Kd.C_alloc ?_ _)|(with_reducible refine Kd.C_drewN ?_ _)|(with_reducible refine Kd.C_drew ?_)));(case side2=>exact(Kd.R_reads' HO500.1).2.1);(case side3=>repeat(first|exact(Kd.R_reads' HO504.1).2.2|(with_reducible refine Kd.C_alloc ?_ _)|(with_reducible refine Kd.C_drewN ?_ _)|(with_reducible refine Kd.C_drew ?_)));(case side4=>exact(Kd.R_reads' HO504.1).2.1);rintro e w' ⟨rfl,⟨nd,rfl⟩⟩;(try first|exact⟨rfl,_,World.drewN_drewN _ _ _⟩|exact⟨rfl,_,Eq.trans (World.drewN_drewN _ _ _) (congrArg (World.drewN _) (Nat.add_assoc _ _ _))⟩)));try go_wp2_with (first|(go_at_call 43;(with_reducible refine(laws_likeInts.calls kj39 _ _ t497 _ _ t501 t505 _ ?side1 ?side2 ?side3 ?side4 A52.1).mono ?_);(case side1=>repeat(first|exact(Kd.R_reads' HO500.1).2.2|(with_reducible refine Kd.C_alloc ?_ _)|(with_reducible refine Kd.C_drewN ?_ _)|(with_reducible refine Kd.C_drew ?_)));(case side2=>exact(Kd.R_reads' HO500.1).2.1);(case side3=>repeat(first|exact(Kd.R_reads' HO504.1).2.2|(with_reducible refine Kd.C_alloc ?_ _)|(with_reducible refine Kd.C_drewN ?_ _)|(with_reducible refine Kd.C_drew ?_)));(case side4=>exact(Kd.R_reads' HO504.1).2.1);rintro e w' ⟨rfl,⟨nd,rfl⟩⟩;(try first|exact⟨rfl,_,World.drewN_drewN _ _ _⟩|exact⟨rfl,_,Eq.trans (World.drewN_drewN _ _ _) (congrArg (World.drewN _) (Nat.add_assoc _ _ _))⟩))))
                                go_meet
                                case rel=>exact⟨_,(!t505),qB57,H',⟨by have:=HJ6.1;have:=HJ18.1;have:=HJ27.1;have:=HJ39.1;first|omega|exact Nat.le_refl _⟩,⟨by (with_reducible repeat(first|apply Kd.S_alloc|apply Kd.S_drewN|apply Kd.S_drew));exact Kd.S_mono HO_5.1 (fun _ hk=>⟨hk.1.1,hk.1.2⟩)⟩,⟨by (with_reducible repeat(first|apply Kd.R_alloc|apply Kd.R_drewN|apply Kd.R_drew));exact Kd.R_mono HO_19.1 (fun _ hk=>hk.1.2)⟩,⟨by (with_reducible repeat(first|apply Kd.R_alloc|apply Kd.R_drewN|apply Kd.R_drew));exact Kd.R_mono HO500.1 (fun _ hk=>hk.1.2)⟩,⟨by repeat(first|(with_reducible first|exact HB.1|apply below_alloc|apply pw_below_drewN|apply below_drew1)|exact HB.1)⟩⟩
                              · rw [if_neg c51] at H
                                exact(laws_FnPeriods.j4_no _ _ _ _ _ _ _ _ _ _ _ _ _ _ _ _ H).elim
                            case rest=>as_aux_lemma=>
                              clear HC48;try clear c1
                              try clear c2
                              try clear p2
                              try clear c3
                              try clear c4
                              try clear c5
                              try clear c8
                              try clear c11
                              try clear c11b0
                              try clear c11b1
                              try clear c15
                              try clear c23
                              try clear c23b0
                              try clear c23b1
                              try clear c24
                              try clear c32
                              try clear c32b0
                              try clear c32b1
                              try clear c36
                              try clear c44
                              try clear c44b0
                              try clear c44b1
                              try clear c45
                              try clear c51
                              try clear c51b0
                              try clear c51b1
                              try clear p2
                              obtain⟨kq,x182_47,rfl,HA,HJ47,HO_5,HO_19,HO_31,HB⟩:=hcut;cases kq with
                              |zero=>exact absurd HA.1 (by simp [laws_FnPeriods.j4])
                              |succ kj47=>
                                have H:=HA.1;clear HA;simp only [laws_FnPeriods.j4] at H
                                by_cases c55:x182_47=true
                                · subst c55
                                  have H1:(some false)=some true:=by rw [if_pos rfl] at H;exact H
                                  cases H1
                                · replace c55:=Bool.eq_false_iff.mpr c55
                                  subst c55;have H1:((impl_IsDifferenceClass.f kj47 t459 t460).bind fun bt506=>((spec_IsDifferenceClass.f kj47 t459 t460).bind fun bt508=>(if bt506.2=bt508.2 then (laws_FnPeriods.j5 kj47 t459 t460 t461 t462 t470 t471 t472 t473 t474 t477 t478 t480 t481 t497 t498 bt506.2 (bt506.1 !=bt508.1)) else (laws_FnPeriods.j5 kj47 t459 t460 t461 t462 t470 t471 t472 t473 t474 t477 t478 t480 t481 t497 t498 bt506.2 true))))=some true:=by rw [if_neg (show ¬(false=true) by decide)] at H;exact H
                                  clear H;have H:=H1;clear H1;replace H:=qOb H;obtain⟨⟨t506,t507⟩,A560,H⟩:=H;replace H:((spec_IsDifferenceClass.f kj47 t459 t460).bind fun bt508=>(if t507=bt508.2 then (laws_FnPeriods.j5 kj47 t459 t460 t461 t462 t470 t471 t472 t473 t474 t477 t478 t480 t481 t497 t498 t507 (t506 !=bt508.1)) else (laws_FnPeriods.j5 kj47 t459 t460 t461 t462 t470 t471 t472 t473 t474 t477 t478 t480 t481 t497 t498 t507 true)))=some true:=H;have A56:=qAm A560;clear A560;replace H:=qOb H;obtain⟨⟨t508,t509⟩,A570,H⟩:=H;replace H:(if t507=t509 then (laws_FnPeriods.j5 kj47 t459 t460 t461 t462 t470 t471 t472 t473 t474 t477 t478 t480 t481 t497 t498 t507 (t506 !=t508)) else (laws_FnPeriods.j5 kj47 t459 t460 t461 t462 t470 t471 t472 t473 t474 t477 t478 t480 t481 t497 t498 t507 true))=some true:=H;have A57:=qAm A570;clear A570;have HC58:=qAm H;clear H;go_upto_region 29 with (first|(go_at_call 49;(with_reducible refine(impl_IsDifferenceClass.calls kj47 t459 t460 t506 t507 _ A56.1).mono ?_);rintro e w59 ⟨rfl,hb⟩;have n0_:=qAm (Kd.S_below qB52 hb);have n1_:=qAm (Kd.R_below qB46 hb);have n2_:=qAm (Kd.R_below qB48 hb);have n3_:=qAm (below_step qB23 hb);clear HO_5;clear HO_19;clear HO_31;clear HB;have HO_5:=n0_;have HO_19:=n1_;have HO_31:=n2_;have HB:=n3_;clear n0_ n1_ n2_ n3_;(try clear hb);(try clear hb2);(try clear hk);(try clear hi))|(go_at_call 50;(with_reducible refine(spec_IsDifferenceClass.calls kj47 t459 t460 t508 t509 _ A57.1).mono ?_);rintro e w60 ⟨rfl,hb⟩;have n0_:=qAm (Kd.S_below qB52 hb);have n1_:=qAm (Kd.R_below qB46 hb);have n2_:=qAm (Kd.R_below qB48 hb);have n3_:=qAm (below_step qB23 hb);clear HO_5;clear HO_19;clear HO_31;clear HB;have HO_5:=n0_;have HO_19:=n1_;have HO_31:=n2_;have HB:=n3_;clear n0_ n1_ n2_ n3_;(try clear hb);(try clear hb2);(try clear hk);(try clear hi)))
                                  repeat(go_quiet (first|(go_at_call 49;(with_reducible refine(impl_IsDifferenceClass.calls kj47 t459 t460 t506 t507 _ A56.1).mono ?_);rintro e w59 ⟨rfl,hb⟩;have n0_:=qAm (Kd.S_below qB52 hb);have n1_:=qAm (Kd.R_below qB46 hb);have n2_:=qAm (Kd.R_below qB48 hb);have n3_:=qAm (below_step qB23 hb);clear HO_5;clear HO_19;clear HO_31;clear HB;have HO_5:=n0_;have HO_19:=n1_;have HO_31:=n2_;have HB:=n3_;clear n0_ n1_ n2_ n3_;(try clear hb);(try clear hb2);(try clear hk);(try clear hi))|(go_at_call 50;(with_reducible refine(spec_IsDifferenceClass.calls kj47 t459 t460 t508 t509 _ A57.1).mono ?_);rintro e w60 ⟨rfl,hb⟩;have n0_:=qAm (Kd.S_below qB52 hb);have n1_:=qAm (Kd.R_below qB46 hb);have n2_:=qAm (Kd.R_below qB48 hb);have n3_:=qAm (below_step qB23 hb);clear HO_5;clear HO_19;clear HO_31;clear HB;have HO_5:=n0_;have HO_19:=n1_;have HO_31:=n2_;have HB:=n3_;clear n0_ n1_ n2_ n3_;(try clear hb);(try clear hb2);(try clear hk);(try clear hi)));go_upto_region 29 with (first|(go_at_call 49;(with_reducible refine(impl_IsDifferenceClass.calls kj47 t459 t460 t506 t507 _ A56.1).mono ?_);rintro e w59 ⟨rfl,hb⟩;have n0_:=qAm (Kd.S_below qB52 hb);have n1_:=qAm (Kd.R_below qB46 hb);have n2_:=qAm (Kd.R_below qB48 hb);have n3_:=qAm (below_step qB23 hb);clear HO_5;clear HO_19;clear HO_31;clear HB;have HO_5:=n0_;have HO_19:=n1_;have HO_31:=n2_;have HB:=n3_;clear n0_ n1_ n2_ n3_;(try clear hb);(try clear hb2);(try clear hk);(try clear hi))|(go_at_call 50;(with_reducible refine(spec_IsDifferenceClass.calls kj47 t459 t460 t508 t509 _ A57.1).mono ?_);rintro e w60 ⟨rfl,hb⟩;have n0_:=qAm (Kd.S_below qB52 hb);have n1_:=qAm (Kd.R_below qB46 hb);have n2_:=qAm (Kd.R_below qB48 hb);have n3_:=qAm (below_step qB23 hb);clear HO_5;clear HO_19;clear HO_31;clear HB;have HO_5:=n0_;have HO_19:=n1_;have HO_31:=n2_;have HB:=n3_;clear n0_ n1_ n2_ n3_;(try clear hb);(try clear hb2);(try clear hk);(try clear hi))))
                                  (try simp only [Act.put,qSa,qSb,qSc])
                                  go_cut [202] (fun v202 wc=>∃(kq:Nat) (x202_57:Bool),v202=.bool x202_57∧Aside0 (laws_FnPeriods.j5 kq t459 t460 t461 t462 t470 t471 t472 t473 t474 t477 t478 t480 t481 t497 t498 t507 x202_57=some true)∧Aside0 (kq≤kj47)∧Aside0 (Kd.S (Kd.slice 2 (Kd.int .i64)) 22 wc w.heap.size (fun k_=>some k_≠(v482:Value).ownBlock∧some k_≠(v499:Value).ownBlock) v463 t461)∧Aside0 (Kd.R (Kd.int .i64) 2 wc w.heap.size (fun k_=>some k_≠(v499:Value).ownBlock) v482 t480)∧Aside0 (Kd.R (Kd.int .i64) 2 wc w.heap.size (fun k_=>some k_≠(v482:Value).ownBlock) v499 t497)∧Aside0 (Below w.heap.size w wc))
                                  case first=>as_aux_lemma=>
                                    have H:=HC58.1;clear HC58
                                    by_cases c61:t507=t509
                                    · rw [if_pos c61] at H
                                      have c61b0:(t507==t509)=true:=beq_iff_eq.mpr c61;have c61b1:(t507 !=t509)=false:=bne_eq_false_iff_eq.mpr c61;clear c61
                                      (first|rw [c61b0]|(simp only [i64_w,i32_w];rw [c61b0])|skip)
                                      have H':=qAm H;clear H;go_wp2;repeat(go_quiet (fail);try go_wp2)
                                      go_meet
                                      case rel=>exact⟨_,((t506 !=t508)),qB57,H',⟨by have:=HJ6.1;have:=HJ18.1;have:=HJ27.1;have:=HJ39.1;have:=HJ47.1;first|omega|exact Nat.le_refl _⟩,⟨by (with_reducible repeat(first|apply Kd.S_alloc|apply Kd.S_drewN|apply Kd.S_drew));exact HO_5.1⟩,⟨by (with_reducible repeat(first|apply Kd.R_alloc|apply Kd.R_drewN|apply Kd.R_drew));exact HO_19.1⟩,⟨by (with_reducible repeat(first|apply Kd.R_alloc|apply Kd.R_drewN|apply Kd.R_drew));exact HO_31.1⟩,⟨by repeat(first|(with_reducible first|exact HB.1|apply below_alloc|apply pw_below_drewN|apply below_drew1)|exact HB.1)⟩⟩
                                    · rw [if_neg c61] at H
                                      exact(laws_FnPeriods.j5_no _ _ _ _ _ _ _ _ _ _ _ _ _ _ _ _ _ H).elim
                                  case rest=>as_aux_lemma=>
                                    clear HC58;try clear c1
                                    try clear c2
                                    try clear p2
                                    try clear c3
                                    try clear c4
                                    try clear c5
                                    try clear c6
                                    try clear c8
                                    try clear c11
                                    try clear c11b0
                                    try clear c11b1
                                    try clear c15
                                    try clear c23
                                    try clear c23b0
                                    try clear c23b1
                                    try clear c24
                                    try clear c32
                                    try clear c32b0
                                    try clear c32b1
                                    try clear c36
                                    try clear c44
                                    try clear c44b0
                                    try clear c44b1
                                    try clear c45
                                    try clear c51
                                    try clear c51b0
                                    try clear c51b1
                                    try clear c55
                                    try clear c61
                                    try clear c61b0
                                    try clear c61b1
                                    try clear p2
                                    obtain⟨kq,x202_57,rfl,HA,HJ57,HO_5,HO_19,HO_31,HB⟩:=hcut;cases kq with
                                    |zero=>exact absurd HA.1 (by simp [laws_FnPeriods.j5])
                                    |succ kj57=>
                                      have H:=HA.1;clear HA;simp only [laws_FnPeriods.j5] at H
                                      by_cases c62:x202_57=true
                                      · subst c62
                                        have H1:(some false)=some true:=by rw [if_pos rfl] at H;exact H
                                        cases H1
                                      · replace c62:=Bool.eq_false_iff.mpr c62
                                        subst c62;have H1:(if t474=0 then ((impl_ClassMembers.f kj57 t470 t471 t473).bind fun bt510=>(if bt510.2=0 then ((laws_hasInt.f kj57 bt510.1 t472).bind fun t514=>(if t514=true then (laws_FnPeriods.j6 kj57 t459 t460 t461 t462 t477 t478 t480 t481 t497 t498 t507) else (some false))) else (some false))) else (laws_FnPeriods.j6 kj57 t459 t460 t461 t462 t477 t478 t480 t481 t497 t498 t507))=some true:=by rw [if_neg (show ¬(false=true) by decide)] at H;exact H
                                        clear H;have H:=H1;clear H1;have HC63:=qAm H;clear H;go_upto_if 204 with (fail)
                                        repeat(go_quiet (fail);go_upto_if 204 with (fail))
                                        go_cut [] (fun wc=>∃(kq:Nat),Aside0 (laws_FnPeriods.j6 kq t459 t460 t461 t462 t477 t478 t480 t481 t497 t498 t507=some true)∧Aside0 (kq≤kj57)∧Aside0 (Kd.S (Kd.slice 2 (Kd.int .i64)) 22 wc w.heap.size (fun k_=>some k_≠(v482:Value).ownBlock∧some k_≠(v499:Value).ownBlock) v463 t461)∧Aside0 (Kd.R (Kd.int .i64) 2 wc w.heap.size (fun k_=>some k_≠(v499:Value).ownBlock) v482 t480)∧Aside0 (Kd.R (Kd.int .i64) 2 wc w.heap.size (fun k_=>some k_≠(v482:Value).ownBlock) v499 t497)∧Aside0 (Below w.heap.size w wc))
                                        case first=>as_aux_lemma=>
                                          have H:=HC63.1;clear HC63
                                          by_cases c64:t474=0
                                          · rw [if_pos c64] at H
                                            have c64b0:(t474==0)=true:=beq_iff_eq.mpr c64;have c64b1:(t474 !=0)=false:=bne_eq_false_iff_eq.mpr c64;clear c64
                                            (first|rw [c64b0]|(simp only [i64_w,i32_w];rw [c64b0])|skip)
                                            replace H:=qOb H;obtain⟨⟨t510,t511⟩,A650,H⟩:=H;replace H:(if t511=0 then ((laws_hasInt.f kj57 t510 t472).bind fun t514=>(if t514=true then (laws_FnPeriods.j6 kj57 t459 t460 t461 t462 t477 t478 t480 t481 t497 t498 t507) else (some false))) else (some false))=some true:=H;have A65:=qAm A650;clear A650
                                            by_cases c66:t511=0
                                            · rw [if_pos c66] at H
                                              have c66b0:(t511==0)=true:=beq_iff_eq.mpr c66;have c66b1:(t511 !=0)=false:=bne_eq_false_iff_eq.mpr c66;clear c66;replace H:=qOb H;obtain⟨t514,A670,H⟩:=H;replace H:(if t514=true then (laws_FnPeriods.j6 kj57 t459 t460 t461 t462 t477 t478 t480 t481 t497 t498 t507) else (some false))=some true:=H;have A67:=qAm A670;clear A670
                                              by_cases c68:t514=true
                                              · subst c68
                                                have H1:(laws_FnPeriods.j6 kj57 t459 t460 t461 t462 t477 t478 t480 t481 t497 t498 t507)=some true:=by rw [if_pos rfl] at H;exact H
                                                clear H;have H:=H1;clear H1;have H':=qAm H;clear H;go_wp2_with (first|(go_at_call 41;(with_reducible refine(impl_ClassMembers.calls kj57 t470 t471 t473 t510 t511 _ A65.1).mono ?_);rintro e w69 ⟨v512,rfl,ho0,hb⟩;have n0_:=qAm (Kd.S_elder' qB52 (Kd.R_base ho0) hb);have n1_:=qAm (Kd.R_elder' qB46 (Kd.R_base ho0) hb);have n2_:=qAm (Kd.R_elder' qB48 (Kd.R_base ho0) hb);have n3_:=qAm (Kd.R_lower (Kd.R_new' (Kd.R_new' ho0 (Kd.R_lt qB46)) (Kd.R_lt qB48)) (below_size qB23));have n4_:=qAm (below_step qB23 hb);clear HO_5;clear HO_19;clear HO_31;clear HB;have HO_5:=n0_;have HO_19:=n1_;have HO_31:=n2_;have HO513:=n3_;have HB:=n4_;clear n0_ n1_ n2_ n3_ n4_;(try clear hb);(try clear hb2);(try clear hk);(try clear hi);(try clear ho0);obtain⟨Ao70,co70,eo70⟩:=Kd.R_slice HO513.1;subst eo70)|(go_at_call 51;(with_reducible refine(laws_hasInt.calls kj57 _ _ t510 t472 true _ ?side1 ?side2 A67.1).mono ?_);(case side1=>repeat(first|exact(Kd.R_reads' HO513.1).2.2|(with_reducible refine Kd.C_alloc ?_ _)|(with_reducible refine Kd.C_drewN ?_ _)|(with_reducible refine Kd.C_drew ?_)));(case side2=>exact(Kd.R_reads' HO513.1).2.1);rintro e w' ⟨rfl,⟨nd,rfl⟩⟩;(try first|exact⟨rfl,_,World.drewN_drewN _ _ _⟩|exact⟨rfl,_,Eq.trans (World.drewN_drewN _ _ _) (congrArg (World.drewN _) (Nat.add_assoc _ _ _))⟩)));repeat(go_quiet (first|(go_at_call 41;(with_reducible refine(impl_ClassMembers.calls kj57 t470 t471 t473 t510 t511 _ A65.1).mono ?_);rintro e w69 ⟨v512,rfl,ho0,hb⟩;have n0_:=qAm (Kd.S_elder' qB52 (Kd.R_base ho0) hb);have n1_:=qAm (Kd.R_elder' qB46 (Kd.R_base ho0) hb);have n2_:=qAm (Kd.R_elder' qB48 (Kd.R_base ho0) hb);have n3_:=qAm (Kd.R_lower (Kd.R_new' (Kd.R_new' ho0 (Kd.R_lt qB46)) (Kd.R_lt qB48)) (below_size qB23));have n4_:=qAm (below_step qB23 hb);clear HO_5;clear HO_19;clear HO_31;clear HB;have HO_5:=n0_;have HO_19:=n1_;have HO_31:=n2_;have HO513:=n3_;have HB:=n4_;clear n0_ n1_ n2_ n3_ n4_;(try clear hb);(try clear hb2);(try clear hk);(try clear hi);(try clear ho0);obtain⟨Ao70,co70,eo70⟩:=Kd.R_slice HO513.1;subst eo70)|(go_at_call 51;(with_reducible refine(laws_hasInt.calls kj57 _ _ t510 t472 true _ ?side1 ?side2 A67.1).mono ?_);(case side1=>repeat(first|exact(Kd.R_reads' HO513.1).2.2|(with_reducible refine Kd.C_alloc ?_ _)|(with_reducible refine Kd.C_drewN ?_ _)|(with_reducible refine Kd.C_drew ?_)));(case side2=>exact(Kd.R_reads' HO513.1).2.1);rintro e w' ⟨rfl,⟨nd,rfl⟩⟩;(try first|exact⟨rfl,_,World.drewN_drewN _ _ _⟩|exact⟨rfl,_,Eq.trans (World.drewN_drewN _ _ _) (congrArg (World.drewN _) (Nat.add_assoc _ _ _))⟩)));try go_wp2_with (first|(go_at_call 41;(with_reducible refine(impl_ClassMembers.calls kj57 t470 t471 t473 t510 t511 _ A65.1).mono ?_);rintro e w69 ⟨v512,rfl,ho0,hb⟩;have n0_:=qAm (Kd.S_elder' qB52 (Kd.R_base ho0) hb);have n1_:=qAm (Kd.R_elder' qB46 (Kd.R_base ho0) hb);have n2_:=qAm (Kd.R_elder' qB48 (Kd.R_base ho0) hb);have n3_:=qAm (Kd.R_lower (Kd.R_new' (Kd.R_new' ho0 (Kd.R_lt qB46)) (Kd.R_lt qB48)) (below_size qB23));have n4_:=qAm (below_step qB23 hb);clear HO_5;clear HO_19;clear HO_31;clear HB;have HO_5:=n0_;have HO_19:=n1_;have HO_31:=n2_;have HO513:=n3_;have HB:=n4_;clear n0_ n1_ n2_ n3_ n4_;(try clear hb);(try clear hb2);(try clear hk);(try clear hi);(try clear ho0);obtain⟨Ao70,co70,eo70⟩:=Kd.R_slice HO513.1;subst eo70)|(go_at_call 51;(with_reducible refine(laws_hasInt.calls kj57 _ _ t510 t472 true _ ?side1 ?side2 A67.1).mono ?_);(case side1=>repeat(first|exact(Kd.R_reads' HO513.1).2.2|(with_reducible refine Kd.C_alloc ?_ _)|(with_reducible refine Kd.C_drewN ?_ _)|(with_reducible refine Kd.C_drew ?_)));(case side2=>exact(Kd.R_reads' HO513.1).2.1);rintro e w' ⟨rfl,⟨nd,rfl⟩⟩;(try first|exact⟨rfl,_,World.drewN_drewN _ _ _⟩|exact⟨rfl,_,Eq.trans (World.drewN_drewN _ _ _) (congrArg (World.drewN _) (Nat.add_assoc _ _ _))⟩))))
                                                go_meet
                                                case rel=>exact⟨_,H',⟨by have:=HJ6.1;have:=HJ18.1;have:=HJ27.1;have:=HJ39.1;have:=HJ47.1;have:=HJ57.1;first|omega|exact Nat.le_refl _⟩,⟨by (with_reducible repeat(first|apply Kd.S_alloc|apply Kd.S_drewN|apply Kd.S_drew));exact Kd.S_mono HO_5.1 (fun _ hk=>⟨hk.1.1,hk.1.2⟩)⟩,⟨by (with_reducible repeat(first|apply Kd.R_alloc|apply Kd.R_drewN|apply Kd.R_drew));exact Kd.R_mono HO_19.1 (fun _ hk=>hk.1)⟩,⟨by (with_reducible repeat(first|apply Kd.R_alloc|apply Kd.R_drewN|apply Kd.R_drew));exact Kd.R_mono HO_31.1 (fun _ hk=>hk.1)⟩,⟨by repeat(first|(with_reducible first|exact HB.1|apply below_alloc|apply pw_below_drewN|apply below_drew1)|exact HB.1)⟩⟩
                                              · replace c68:=Bool.eq_false_iff.mpr c68
                                                subst c68;have H1:(some false)=some true:=by rw [if_neg (show ¬(false=true) by decide)] at H;exact H
                                                cases H1
                                            · rw [if_neg c66] at H
                                              cases H
                                          · rw [if_neg c64] at H
                                            have c64b0:(t474==0)=false:=beq_eq_false_iff_ne.mpr c64;have c64b1:(t474 !=0)=true:=bne_iff_ne.mpr c64
                                            (first|rw [c64b0]|(simp only [i64_w,i32_w];rw [c64b0])|skip)
                                            have H':=qAm H;clear H;go_wp2;repeat(go_quiet (fail);try go_wp2)
                                            go_meet
                                            case rel=>exact⟨_,H',⟨by have:=HJ6.1;have:=HJ18.1;have:=HJ27.1;have:=HJ39.1;have:=HJ47.1;have:=HJ57.1;first|omega|exact Nat.le_refl _⟩,⟨by (with_reducible repeat(first|apply Kd.S_alloc|apply Kd.S_drewN|apply Kd.S_drew));exact HO_5.1⟩,⟨by (with_reducible repeat(first|apply Kd.R_alloc|apply Kd.R_drewN|apply Kd.R_drew));exact HO_19.1⟩,⟨by (with_reducible repeat(first|apply Kd.R_alloc|apply Kd.R_drewN|apply Kd.R_drew));exact HO_31.1⟩,⟨by repeat(first|(with_reducible first|exact HB.1|apply below_alloc|apply pw_below_drewN|apply below_drew1)|exact HB.1)⟩⟩
                                        case rest=>as_aux_lemma=>
                                          clear HC63;try clear c1
                                          try clear c2
                                          try clear p2
                                          try clear c3
                                          try clear c4
                                          try clear c5
                                          try clear c6
                                          try clear c8
                                          try clear c11
                                          try clear c11b0
                                          try clear c11b1
                                          try clear c15
                                          try clear c23
                                          try clear c23b0
                                          try clear c23b1
                                          try clear c24
                                          try clear c32
                                          try clear c32b0
                                          try clear c32b1
                                          try clear c36
                                          try clear c44
                                          try clear c44b0
                                          try clear c44b1
                                          try clear c45
                                          try clear c51
                                          try clear c51b0
                                          try clear c51b1
                                          try clear c55
                                          try clear c61
                                          try clear c61b0
                                          try clear c61b1
                                          try clear c62
                                          try clear c64
                                          try clear c64b0
                                          try clear c64b1
                                          try clear c66
                                          try clear c66b0
                                          try clear c66b1
                                          try clear c68
                                          try clear p2
                                          obtain⟨kq,HA,HJ62,HO_5,HO_19,HO_31,HB⟩:=hcut;cases kq with
                                          |zero=>exact absurd HA.1 (by simp [laws_FnPeriods.j6])
                                          |succ kj62=>
                                            have H:=HA.1;clear HA;simp only [laws_FnPeriods.j6] at H;have HC74:=qAm H;clear H;go_upto_region 35 with (fail)
                                            repeat(go_quiet (fail);go_upto_region 35 with (fail))
                                            go_cut [230] (fun v230 wc=>∃(kq:Nat) (x230_73:Bool),v230=.bool x230_73∧Aside0 (laws_FnPeriods.j7 kq t459 t460 t461 t462 t497 t498 t507 x230_73=some true)∧Aside0 (kq≤kj62)∧Aside0 (Kd.S (Kd.slice 2 (Kd.int .i64)) 22 wc w.heap.size (fun k_=>some k_≠(v499:Value).ownBlock) v463 t461)∧Aside0 (Kd.R (Kd.int .i64) 2 wc w.heap.size (fun _=>True) v499 t497)∧Aside0 (Below w.heap.size w wc))
                                            case first=>as_aux_lemma=>
                                              have H:=HC74.1;clear HC74
                                              by_cases c75:t481=0
                                              · rw [if_pos c75] at H
                                                have c75b0:(t481==0)=true:=beq_iff_eq.mpr c75;have c75b1:(t481 !=0)=false:=bne_eq_false_iff_eq.mpr c75;clear c75
                                                (first|rw [c75b0]|(simp only [i64_w,i32_w];rw [c75b0])|skip)
                                                by_cases c76:t478=0
                                                · rw [if_pos c76] at H
                                                  exact absurd H (by simp)
                                                · rw [if_neg c76] at H
                                                  have c76b0:(t478==0)=false:=beq_eq_false_iff_ne.mpr c76;have c76b1:(t478 !=0)=true:=bne_iff_ne.mpr c76;have H':=qAm H;clear H;obtain⟨Ao77,co77,eo77⟩:=Kd.R_slice HO_19.1;subst eo77;go_wp2;repeat(go_quiet (fail);try go_wp2)
                                                  go_meet
                                                  case rel=>exact⟨_,(((t480.length:Int) !=(wrap64 (Int.tdiv (wrap64 (t477 - 1)) t478)))),qB57,H',⟨by have:=HJ6.1;have:=HJ18.1;have:=HJ27.1;have:=HJ39.1;have:=HJ47.1;have:=HJ57.1;have:=HJ62.1;first|omega|exact Nat.le_refl _⟩,⟨by (with_reducible repeat(first|apply Kd.S_alloc|apply Kd.S_drewN|apply Kd.S_drew));exact Kd.S_mono HO_5.1 (fun _ hk=>hk.2)⟩,⟨by (with_reducible repeat(first|apply Kd.R_alloc|apply Kd.R_drewN|apply Kd.R_drew));exact Kd.R_mono HO_31.1 (fun _ hk=>trivial)⟩,⟨by repeat(first|(with_reducible first|exact HB.1|apply below_alloc|apply pw_below_drewN|apply below_drew1)|exact HB.1)⟩⟩
                                              · rw [if_neg c75] at H
                                                have c75b0:(t481==0)=false:=beq_eq_false_iff_ne.mpr c75;have c75b1:(t481 !=0)=true:=bne_iff_ne.mpr c75
                                                (first|rw [c75b0]|(simp only [i64_w,i32_w];rw [c75b0])|skip)
                                                have H':=qAm H;clear H;go_wp2;repeat(go_quiet (fail);try go_wp2)
                                                go_meet
                                                case rel=>exact⟨_,(false),qB57,H',⟨by have:=HJ6.1;have:=HJ18.1;have:=HJ27.1;have:=HJ39.1;have:=HJ47.1;have:=HJ57.1;have:=HJ62.1;first|omega|exact Nat.le_refl _⟩,⟨by (with_reducible repeat(first|apply Kd.S_alloc|apply Kd.S_drewN|apply Kd.S_drew));exact Kd.S_mono HO_5.1 (fun _ hk=>hk.2)⟩,⟨by (with_reducible repeat(first|apply Kd.R_alloc|apply Kd.R_drewN|apply Kd.R_drew));exact Kd.R_mono HO_31.1 (fun _ hk=>trivial)⟩,⟨by repeat(first|(with_reducible first|exact HB.1|apply below_alloc|apply pw_below_drewN|apply below_drew1)|exact HB.1)⟩⟩
                                            case rest=>as_aux_lemma=>
                                              clear HC74;try clear c1
                                              try clear c2
                                              try clear p2
                                              try clear c3
                                              try clear c4
                                              try clear c5
                                              try clear c6
                                              try clear p6
                                              try clear c7
                                              try clear c8
                                              try clear c11
                                              try clear c11b0
                                              try clear c11b1
                                              try clear c15
                                              try clear c23
                                              try clear c23b0
                                              try clear c23b1
                                              try clear c24
                                              try clear c32
                                              try clear c32b0
                                              try clear c32b1
                                              try clear c36
                                              try clear c44
                                              try clear c44b0
                                              try clear c44b1
                                              try clear c45
                                              try clear c51
                                              try clear c51b0
                                              try clear c51b1
                                              try clear c55
                                              try clear c61
                                              try clear c61b0
                                              try clear c61b1
                                              try clear c62
                                              try clear c64
                                              try clear c64b0
                                              try clear c64b1
                                              try clear p64
                                              try clear c66
                                              try clear c66b0
                                              try clear c66b1
                                              try clear c68
                                              try clear c75
                                              try clear c75b0
                                              try clear c75b1
                                              try clear c76
                                              try clear c76b0
                                              try clear c76b1
                                              try clear p2
                                              obtain⟨kq,x230_73,rfl,HA,HJ73,HO_5,HO_31,HB⟩:=hcut;cases kq with
                                              |zero=>exact absurd HA.1 (by simp [laws_FnPeriods.j7])
                                              |succ kj73=>
                                                have H:=HA.1;clear HA;simp only [laws_FnPeriods.j7] at H
                                                by_cases c78:x230_73=true
                                                · subst c78
                                                  have H1:(some false)=some true:=by rw [if_pos rfl] at H;exact H
                                                  cases H1
                                                · replace c78:=Bool.eq_false_iff.mpr c78
                                                  subst c78;have H1:(if t462=0 then ((impl_ClassOf.f kj73 t459 t460 (wrap64 (t459 - 1))).bind fun bt515=>(laws_FnPeriods.l0 kj73 t459 t460 t461 t497 t498 t507 bt515.1 bt515.2 0 0)) else (if (t461.length:Int)=0 then (if t498=t462 then (some (t507==t462)) else (some false)) else (some false)))=some true:=by rw [if_neg (show ¬(false=true) by decide)] at H;exact H
                                                  clear H;have H:=H1;clear H1
                                                  by_cases c79:t462=0
                                                  · rw [if_pos c79] at H
                                                    have c79b0:(t462==0)=true:=beq_iff_eq.mpr c79;have c79b1:(t462 !=0)=false:=bne_eq_false_iff_eq.mpr c79;clear c79;replace H:=qOb H;obtain⟨⟨t515,t516⟩,A800,H⟩:=H;replace H:(laws_FnPeriods.l0 kj73 t459 t460 t461 t497 t498 t507 t515 t516 0 0)=some true:=H;have A80:=qAm A800;clear A800;have H':=qAm H;clear H;go_wp2_with (first|(go_at_call 38;(with_reducible refine(impl_ClassOf.calls kj73 t459 t460 (wrap64 (t459 - 1)) t515 t516 _ A80.1).mono ?_);rintro e w81 ⟨rfl,hb⟩;have n0_:=qAm (Kd.S_below qB52 hb);have n1_:=qAm (Kd.R_below qB48 hb);have n2_:=qAm (below_step qB23 hb);clear HO_5;clear HO_31;clear HB;have HO_5:=n0_;have HO_31:=n1_;have HB:=n2_;clear n0_ n1_ n2_;(try clear hb);(try clear hb2);(try clear hk);(try clear hi)));repeat(go_quiet (first|(go_at_call 38;(with_reducible refine(impl_ClassOf.calls kj73 t459 t460 (wrap64 (t459 - 1)) t515 t516 _ A80.1).mono ?_);rintro e w81 ⟨rfl,hb⟩;have n0_:=qAm (Kd.S_below qB52 hb);have n1_:=qAm (Kd.R_below qB48 hb);have n2_:=qAm (below_step qB23 hb);clear HO_5;clear HO_31;clear HB;have HO_5:=n0_;have HO_31:=n1_;have HB:=n2_;clear n0_ n1_ n2_;(try clear hb);(try clear hb2);(try clear hk);(try clear hi)));try go_wp2_with (first|(go_at_call 38;(with_reducible refine(impl_ClassOf.calls kj73 t459 t460 (wrap64 (t459 - 1)) t515 t516 _ A80.1).mono ?_);rintro e w81 ⟨rfl,hb⟩;have n0_:=qAm (Kd.S_below qB52 hb);have n1_:=qAm (Kd.R_below qB48 hb);have n2_:=qAm (below_step qB23 hb);clear HO_5;clear HO_31;clear HB;have HO_5:=n0_;have HO_31:=n1_;have HB:=n2_;clear n0_ n1_ n2_;(try clear hb);(try clear hb2);(try clear hk);(try clear hi))))
                                                    try simp only [Act.put,qSa,qSc,qSb]
                                                    go_loopg [43,44] kj73 (fun kq v43 v44 w'=>∃(x43_9:Int) (x44_9:Int),v43=.int .i64 x43_9∧v44=.int .i64 x44_9∧Aside0 (laws_FnPeriods.l0 kq t459 t460 t461 t497 t498 t507 t515 t516 x43_9 x44_9=some true)∧Aside0 (kq≤kj73)∧Aside0 (Kd.S (Kd.slice 2 (Kd.int .i64)) 22 w' w.heap.size (fun k_=>some k_≠(v499:Value).ownBlock) v463 t461)∧Aside0 (Kd.R (Kd.int .i64) 2 w' w.heap.size (fun _=>True) v499 t497)∧Aside0 (Below w.heap.size w w'))
                                                    case atStart=>exact⟨(0),(0),qB57,qB57,H',⟨Nat.le_refl _⟩,⟨by (with_reducible repeat(first|apply Kd.S_alloc|apply Kd.S_drewN|apply Kd.S_drew));exact HO_5.1⟩,⟨by (with_reducible repeat(first|apply Kd.R_alloc|apply Kd.R_drewN|apply Kd.R_drew));exact HO_31.1⟩,⟨by repeat(first|(with_reducible first|exact HB.1|apply below_alloc|apply pw_below_drewN|apply below_drew1)|exact HB.1)⟩⟩
                                                    case round=>as_aux_lemma=>
                                                      clear H';try clear c1
                                                      try clear c2
                                                      try clear p2
                                                      try clear c3
                                                      try clear c4
                                                      try clear c5
                                                      try clear c6
                                                      try clear p6
                                                      try clear c7
                                                      try clear c8
                                                      try clear c11
                                                      try clear c11b0
                                                      try clear c11b1
                                                      try clear c15
                                                      try clear c23
                                                      try clear c23b0
                                                      try clear c23b1
                                                      try clear c24
                                                      try clear c32
                                                      try clear c32b0
                                                      try clear c32b1
                                                      try clear c36
                                                      try clear c44
                                                      try clear c44b0
                                                      try clear c44b1
                                                      try clear c45
                                                      try clear c51
                                                      try clear c51b0
                                                      try clear c51b1
                                                      try clear c55
                                                      try clear c61
                                                      try clear c61b0
                                                      try clear c61b1
                                                      try clear c62
                                                      try clear c64
                                                      try clear c64b0
                                                      try clear c64b1
                                                      try clear p64
                                                      try clear c66
                                                      try clear c66b0
                                                      try clear c66b1
                                                      try clear c68
                                                      try clear c75
                                                      try clear c75b0
                                                      try clear c75b1
                                                      try clear c76
                                                      try clear c76b0
                                                      try clear c76b1
                                                      try clear c78
                                                      try clear c79
                                                      try clear c79b0
                                                      try clear c79b1
                                                      try clear p2
                                                      try clear p6
                                                      try clear p64
                                                      obtain⟨x43_9,x44_9,rfl,rfl,HA,HK9,HO_5,HO_31,HB⟩:=hrel;cases gk with
                                                      |zero=>exact absurd HA.1 (by simp [laws_FnPeriods.l0])
                                                      |succ k9=>
                                                        have H:=HA.1;clear HA;simp only [laws_FnPeriods.l0] at H
                                                        by_cases c82:x44_9<t460
                                                        · rw [if_pos c82] at H
                                                          have c82b0:decide (x44_9<t460)=true:=decide_eq_true c82;clear c82
                                                          by_cases c83:t460=0
                                                          · rw [if_pos c83] at H
                                                            exact absurd H (by simp)
                                                          · rw [if_neg c83] at H
                                                            have c83b0:(t460==0)=false:=beq_eq_false_iff_ne.mpr c83;have c83b1:(t460 !=0)=true:=bne_iff_ne.mpr c83
                                                            by_cases c84:x44_9=t515
                                                            · rw [if_pos c84] at H
                                                              have c84b0:(x44_9==t515)=true:=beq_iff_eq.mpr c84;have c84b1:(x44_9 !=t515)=false:=bne_eq_false_iff_eq.mpr c84;clear c84
                                                              by_cases c85:0≤x44_9
                                                              · rw [if_pos c85] at H
                                                                have c85b0:decide (0≤x44_9)=true:=decide_eq_true c85;clear c85
                                                                by_cases c86:x44_9<(t461.length:Int)
                                                                · rw [if_pos c86] at H
                                                                  have c86b0:decide (x44_9<(t461.length:Int))=true:=decide_eq_true c86;clear c86;replace H:=qOb H;obtain⟨t518,A870,H⟩:=H;replace H:(if t518=(wrap64 ((wrap64 (Int.tdiv (wrap64 (t459 - 1)) t460)) - 1)) then (if x44_9<(t497.length:Int) then (laws_FnPeriods.l0 k9 t459 t460 t461 t497 t498 t507 t515 t516 (wrap64 (x43_9+(wrap64 ((rd t497 x44_9)*(wrap64 (Int.tdiv (wrap64 (t459 - 1)) t460)))))) (wrap64 (x44_9+1))) else (none)) else (some false))=some true:=H;have A87:=qAm A870;clear A870
                                                                  by_cases c88:t518=(wrap64 ((wrap64 (Int.tdiv (wrap64 (t459 - 1)) t460)) - 1))
                                                                  · rw [if_pos c88] at H
                                                                    have c88b0:(t518==(wrap64 ((wrap64 (Int.tdiv (wrap64 (t459 - 1)) t460)) - 1)))=true:=beq_iff_eq.mpr c88;have c88b1:(t518 !=(wrap64 ((wrap64 (Int.tdiv (wrap64 (t459 - 1)) t460)) - 1)))=false:=bne_eq_false_iff_eq.mpr c88;clear c88
                                                                    by_cases c89:x44_9<(t497.length:Int)
                                                                    · rw [if_pos c89] at H
                                                                      have c89b0:decide (x44_9<(t497.length:Int))=true:=decide_eq_true c89;clear c89;have H':=qAm H;clear H;obtain⟨Ao90,co90,eo90⟩:=Kd.S_slice HO_5.1;subst eo90;have p517:0≤(x44_9:Int):=of_decide_eq_true qB56;have q517:x44_9<(t461.length:Int):=of_decide_eq_true qB56;obtain⟨ad517,A517_0,c517_0,e517,hx517_0,hl517_0,hi517_0⟩:=at_L2 (Kd.S_reads' HO_5.1).2.2 x44_9 p517 q517;cases e517
                                                                      obtain⟨ce517,hce517,hMe517,hcc517⟩:=Kd.S_get HO_5.1 [] x44_9 p517 (by first|exact q517|exact of_decide_eq_true qB56|(have e_:=(Kd.S_reads' HO_5.1).1;omega));obtain⟨ve517_0,rfl,ge517_0⟩:=hMe517;have hv517_0:=hcc517 0 _ rfl;rw [Nat.add_zero,show((Kd.slice 2 (Kd.int .i64))).sz=1 from rfl,Nat.mul_one] at hv517_0;replace hv517_0:=Option.some.inj (hv517_0.symm.trans hx517_0);rw [hv517_0] at ge517_0;have HL517_0:=qAm (show Kd.R (Kd.int .i64) 2 _ _ _ _ (rd_L2 t461 x44_9) from ge517_0);clear hv517_0 ge517_0 hcc517 hce517;have HR517_0:=qAm hi517_0;have HC517_0:=qAm hl517_0;clear hi517_0 hl517_0;replace p517:=eq_true p517;replace q517:=eq_true q517;go_wp2_with (first|(go_at_call 52;(with_reducible refine(laws_sum.calls k9 _ _ (rd_L2 t461 x44_9) t518 _ ?side1 ?side2 A87.1).mono ?_);(case side1=>repeat(first|exact qB7|(with_reducible refine Kd.C_alloc ?_ _)|(with_reducible refine Kd.C_drewN ?_ _)|(with_reducible refine Kd.C_drew ?_)));(case side2=>exact HC517_0.1);rintro e w' ⟨rfl,⟨nd,rfl⟩⟩;(try first|exact⟨rfl,_,World.drewN_drewN _ _ _⟩|exact⟨rfl,_,Eq.trans (World.drewN_drewN _ _ _) (congrArg (World.drewN _) (Nat.add_assoc _ _ _))⟩);obtain⟨Ao91,co91,eo91⟩:=Kd.R_slice HO_31.1;subst eo91;have p519:0≤(x44_9:Int):=of_decide_eq_true qB56;have q519:x44_9<(t497.length:Int):=of_decide_eq_true qB56;obtain⟨ad519,e519,hx519_0⟩:=Kd.at_int (Kd.R_reads' HO_31.1).2.2 x44_9 p519 q519;cases e519;replace p519:=eq_true p519;replace q519:=eq_true q519));repeat(go_quiet (first|(go_at_call 52;(with_reducible refine(laws_sum.calls k9 _ _ (rd_L2 t461 x44_9) t518 _ ?side1 ?side2 A87.1).mono ?_);(case side1=>repeat(first|exact qB7|(with_reducible refine Kd.C_alloc ?_ _)|(with_reducible refine Kd.C_drewN ?_ _)|(with_reducible refine Kd.C_drew ?_)));(case side2=>exact HC517_0.1);rintro e w' ⟨rfl,⟨nd,rfl⟩⟩;(try first|exact⟨rfl,_,World.drewN_drewN _ _ _⟩|exact⟨rfl,_,Eq.trans (World.drewN_drewN _ _ _) (congrArg (World.drewN _) (Nat.add_assoc _ _ _))⟩);obtain⟨Ao91,co91,eo91⟩:=Kd.R_slice HO_31.1;subst eo91;have p519:0≤(x44_9:Int):=of_decide_eq_true qB56;have q519:x44_9<(t497.length:Int):=of_decide_eq_true qB56;obtain⟨ad519,e519,hx519_0⟩:=Kd.at_int (Kd.R_reads' HO_31.1).2.2 x44_9 p519 q519;cases e519;replace p519:=eq_true p519;replace q519:=eq_true q519));try go_wp2_with (first|(go_at_call 52;(with_reducible refine(laws_sum.calls k9 _ _ (rd_L2 t461 x44_9) t518 _ ?side1 ?side2 A87.1).mono ?_);(case side1=>repeat(first|exact qB7|(with_reducible refine Kd.C_alloc ?_ _)|(with_reducible refine Kd.C_drewN ?_ _)|(with_reducible refine Kd.C_drew ?_)));(case side2=>exact HC517_0.1);rintro e w' ⟨rfl,⟨nd,rfl⟩⟩;(try first|exact⟨rfl,_,World.drewN_drewN _ _ _⟩|exact⟨rfl,_,Eq.trans (World.drewN_drewN _ _ _) (congrArg (World.drewN _) (Nat.add_assoc _ _ _))⟩);obtain⟨Ao91,co91,eo91⟩:=Kd.R_slice HO_31.1;subst eo91;have p519:0≤(x44_9:Int):=of_decide_eq_true qB56;have q519:x44_9<(t497.length:Int):=of_decide_eq_true qB56;obtain⟨ad519,e519,hx519_0⟩:=Kd.at_int (Kd.R_reads' HO_31.1).2.2 x44_9 p519 q519;cases e519;replace p519:=eq_true p519;replace q519:=eq_true q519)))
                                                                      (first|go_roundg k9|((try simp only [add_plain] at *);go_roundg k9))
                                                                      case measure=>have:=HJ6.1;have:=HJ18.1;have:=HJ27.1;have:=HJ39.1;have:=HJ47.1;have:=HJ57.1;have:=HJ62.1;have:=HJ73.1;have:=HK9.1;omega
                                                                      case rel=>exact⟨(wrap64 (x43_9+(wrap64 ((rd t497 x44_9)*(wrap64 (Int.tdiv (wrap64 (t459 - 1)) t460)))))),(wrap64 (x44_9+1)),qB57,qB57,H',⟨by have:=HJ6.1;have:=HJ18.1;have:=HJ27.1;have:=HJ39.1;have:=HJ47.1;have:=HJ57.1;have:=HJ62.1;have:=HJ73.1;have:=HK9.1;omega⟩,⟨by (with_reducible repeat(first|apply Kd.S_alloc|apply Kd.S_drewN|apply Kd.S_drew));exact HO_5.1⟩,⟨by (with_reducible repeat(first|apply Kd.R_alloc|apply Kd.R_drewN|apply Kd.R_drew));exact HO_31.1⟩,⟨by repeat(first|(with_reducible first|exact HB.1|apply below_alloc|apply pw_below_drewN|apply below_drew1)|exact HB.1)⟩⟩
                                                                    · rw [if_neg c89] at H
                                                                      exact absurd H (by simp)
                                                                  · rw [if_neg c88] at H
                                                                    cases H
                                                                · rw [if_neg c86] at H
                                                                  exact absurd H (by simp)
                                                              · rw [if_neg c85] at H
                                                                exact absurd H (by simp)
                                                            · rw [if_neg c84] at H
                                                              have c84b0:(x44_9==t515)=false:=beq_eq_false_iff_ne.mpr c84;have c84b1:(x44_9 !=t515)=true:=bne_iff_ne.mpr c84
                                                              by_cases c93:0≤x44_9
                                                              · rw [if_pos c93] at H
                                                                have c93b0:decide (0≤x44_9)=true:=decide_eq_true c93;clear c93
                                                                by_cases c94:x44_9<(t461.length:Int)
                                                                · rw [if_pos c94] at H
                                                                  have c94b0:decide (x44_9<(t461.length:Int))=true:=decide_eq_true c94;clear c94;replace H:=qOb H;obtain⟨t521,A950,H⟩:=H;replace H:(if t521=(wrap64 (Int.tdiv (wrap64 (t459 - 1)) t460)) then (if x44_9<(t497.length:Int) then (laws_FnPeriods.l0 k9 t459 t460 t461 t497 t498 t507 t515 t516 (wrap64 (x43_9+(wrap64 ((rd t497 x44_9)*(wrap64 (Int.tdiv (wrap64 (t459 - 1)) t460)))))) (wrap64 (x44_9+1))) else (none)) else (some false))=some true:=H;have A95:=qAm A950;clear A950
                                                                  by_cases c96:t521=(wrap64 (Int.tdiv (wrap64 (t459 - 1)) t460))
                                                                  · rw [if_pos c96] at H
                                                                    have c96b0:(t521==(wrap64 (Int.tdiv (wrap64 (t459 - 1)) t460)))=true:=beq_iff_eq.mpr c96;have c96b1:(t521 !=(wrap64 (Int.tdiv (wrap64 (t459 - 1)) t460)))=false:=bne_eq_false_iff_eq.mpr c96;clear c96
                                                                    by_cases c97:x44_9<(t497.length:Int)
                                                                    · rw [if_pos c97] at H
                                                                      have c97b0:decide (x44_9<(t497.length:Int))=true:=decide_eq_true c97;clear c97;have H':=qAm H;clear H;obtain⟨Ao98,co98,eo98⟩:=Kd.S_slice HO_5.1;subst eo98;have p520:0≤(x44_9:Int):=of_decide_eq_true qB56;have q520:x44_9<(t461.length:Int):=of_decide_eq_true qB56;obtain⟨ad520,A520_0,c520_0,e520,hx520_0,hl520_0,hi520_0⟩:=at_L2 (Kd.S_reads' HO_5.1).2.2 x44_9 p520 q520;cases e520
                                                                      obtain⟨ce520,hce520,hMe520,hcc520⟩:=Kd.S_get HO_5.1 [] x44_9 p520 (by first|exact q520|exact of_decide_eq_true qB56|(have e_:=(Kd.S_reads' HO_5.1).1;omega));obtain⟨ve520_0,rfl,ge520_0⟩:=hMe520;have hv520_0:=hcc520 0 _ rfl;rw [Nat.add_zero,show((Kd.slice 2 (Kd.int .i64))).sz=1 from rfl,Nat.mul_one] at hv520_0;replace hv520_0:=Option.some.inj (hv520_0.symm.trans hx520_0);rw [hv520_0] at ge520_0;have HL520_0:=qAm (show Kd.R (Kd.int .i64) 2 _ _ _ _ (rd_L2 t461 x44_9) from ge520_0);clear hv520_0 ge520_0 hcc520 hce520;have HR520_0:=qAm hi520_0;have HC520_0:=qAm hl520_0;clear hi520_0 hl520_0;replace p520:=eq_true p520;replace q520:=eq_true q520;go_wp2_with (first|(go_at_call 52;(with_reducible refine(laws_sum.calls k9 _ _ (rd_L2 t461 x44_9) t521 _ ?side1 ?side2 A95.1).mono ?_);(case side1=>repeat(first|exact qB8|(with_reducible refine Kd.C_alloc ?_ _)|(with_reducible refine Kd.C_drewN ?_ _)|(with_reducible refine Kd.C_drew ?_)));(case side2=>exact HC520_0.1);rintro e w' ⟨rfl,⟨nd,rfl⟩⟩;(try first|exact⟨rfl,_,World.drewN_drewN _ _ _⟩|exact⟨rfl,_,Eq.trans (World.drewN_drewN _ _ _) (congrArg (World.drewN _) (Nat.add_assoc _ _ _))⟩);obtain⟨Ao99,co99,eo99⟩:=Kd.R_slice HO_31.1;subst eo99;have p522:0≤(x44_9:Int):=of_decide_eq_true qB56;have q522:x44_9<(t497.length:Int):=of_decide_eq_true qB56;obtain⟨ad522,e522,hx522_0⟩:=Kd.at_int (Kd.R_reads' HO_31.1).2.2 x44_9 p522 q522;cases e522;replace p522:=eq_true p522;replace q522:=eq_true q522));repeat(go_quiet (first|(go_at_call 52;(with_reducible refine(laws_sum.calls k9 _ _ (rd_L2 t461 x44_9) t521 _ ?side1 ?side2 A95.1).mono ?_);(case side1=>repeat(first|exact qB8|(with_reducible refine Kd.C_alloc ?_ _)|(with_reducible refine Kd.C_drewN ?_ _)|(with_reducible refine Kd.C_drew ?_)));(case side2=>exact HC520_0.1);rintro e w' ⟨rfl,⟨nd,rfl⟩⟩;(try first|exact⟨rfl,_,World.drewN_drewN _ _ _⟩|exact⟨rfl,_,Eq.trans (World.drewN_drewN _ _ _) (congrArg (World.drewN _) (Nat.add_assoc _ _ _))⟩);obtain⟨Ao99,co99,eo99⟩:=Kd.R_slice HO_31.1;subst eo99;have p522:0≤(x44_9:Int):=of_decide_eq_true qB56;have q522:x44_9<(t497.length:Int):=of_decide_eq_true qB56;obtain⟨ad522,e522,hx522_0⟩:=Kd.at_int (Kd.R_reads' HO_31.1).2.2 x44_9 p522 q522;cases e522;replace p522:=eq_true p522;replace q522:=eq_true q522));try go_wp2_with (first|(go_at_call 52;(with_reducible refine(laws_sum.calls k9 _ _ (rd_L2 t461 x44_9) t521 _ ?side1 ?side2 A95.1).mono ?_);(case side1=>repeat(first|exact qB8|(with_reducible refine Kd.C_alloc ?_ _)|(with_reducible refine Kd.C_drewN ?_ _)|(with_reducible refine Kd.C_drew ?_)));(case side2=>exact HC520_0.1);rintro e w' ⟨rfl,⟨nd,rfl⟩⟩;(try first|exact⟨rfl,_,World.drewN_drewN _ _ _⟩|exact⟨rfl,_,Eq.trans (World.drewN_drewN _ _ _) (congrArg (World.drewN _) (Nat.add_assoc _ _ _))⟩);obtain⟨Ao99,co99,eo99⟩:=Kd.R_slice HO_31.1;subst eo99;have p522:0≤(x44_9:Int):=of_decide_eq_true qB56;have q522:x44_9<(t497.length:Int):=of_decide_eq_true qB56;obtain⟨ad522,e522,hx522_0⟩:=Kd.at_int (Kd.R_reads' HO_31.1).2.2 x44_9 p522 q522;cases e522;replace p522:=eq_true p522;replace q522:=eq_true q522)))
                                                                      (first|go_roundg k9|((try simp only [add_plain] at *);go_roundg k9))
                                                                      case measure=>have:=HJ6.1;have:=HJ18.1;have:=HJ27.1;have:=HJ39.1;have:=HJ47.1;have:=HJ57.1;have:=HJ62.1;have:=HJ73.1;have:=HK9.1;omega
                                                                      case rel=>exact⟨(wrap64 (x43_9+(wrap64 ((rd t497 x44_9)*(wrap64 (Int.tdiv (wrap64 (t459 - 1)) t460)))))),(wrap64 (x44_9+1)),qB57,qB57,H',⟨by have:=HJ6.1;have:=HJ18.1;have:=HJ27.1;have:=HJ39.1;have:=HJ47.1;have:=HJ57.1;have:=HJ62.1;have:=HJ73.1;have:=HK9.1;omega⟩,⟨by (with_reducible repeat(first|apply Kd.S_alloc|apply Kd.S_drewN|apply Kd.S_drew));exact HO_5.1⟩,⟨by (with_reducible repeat(first|apply Kd.R_alloc|apply Kd.R_drewN|apply Kd.R_drew));exact HO_31.1⟩,⟨by repeat(first|(with_reducible first|exact HB.1|apply below_alloc|apply pw_below_drewN|apply below_drew1)|exact HB.1)⟩⟩
                                                                    · rw [if_neg c97] at H
                                                                      exact absurd H (by simp)
                                                                  · rw [if_neg c96] at H
                                                                    cases H
                                                                · rw [if_neg c94] at H
                                                                  exact absurd H (by simp)
                                                              · rw [if_neg c93] at H
                                                                exact absurd H (by simp)
                                                        · rw [if_neg c82] at H
                                                          have c82b0:decide (x44_9<t460)=false:=decide_eq_false c82;clear c82
                                                          by_cases c101:t516=0
                                                          · rw [if_pos c101] at H
                                                            have c101b0:(t516==0)=true:=beq_iff_eq.mpr c101;have c101b1:(t516 !=0)=false:=bne_eq_false_iff_eq.mpr c101;clear c101
                                                            by_cases c102:t498=0
                                                            · rw [if_pos c102] at H
                                                              have c102b0:(t498==0)=true:=beq_iff_eq.mpr c102;have c102b1:(t498 !=0)=false:=bne_eq_false_iff_eq.mpr c102;clear c102
                                                              by_cases c103:t507=0
                                                              · rw [if_pos c103] at H
                                                                have c103b0:(t507==0)=true:=beq_iff_eq.mpr c103;have c103b1:(t507 !=0)=false:=bne_eq_false_iff_eq.mpr c103;clear c103
                                                                by_cases c104:t460=0
                                                                · rw [if_pos c104] at H
                                                                  exact absurd H (by simp)
                                                                · rw [if_neg c104] at H
                                                                  have c104b0:(t460==0)=false:=beq_eq_false_iff_ne.mpr c104;have c104b1:(t460 !=0)=true:=bne_iff_ne.mpr c104
                                                                  first|(simp at H;done)|(have HE_:=Option.some.inj H;clear H;go_wp2;repeat(go_quiet (fail);try go_wp2);go_ret;exact⟨by first|rfl|(simp;exact eq_of_beq HE_)|(rw [HE_];done)|(simp [errW_none,errW_some] <;> rfl)|(simp [*,errW_none,errW_some] <;> rfl),by repeat(first|(with_reducible first|exact HB.1|apply below_alloc|apply pw_below_drewN|apply below_drew1)|exact HB.1)⟩)
                                                              · rw [if_neg c103] at H
                                                                have c103b0:(t507==0)=false:=beq_eq_false_iff_ne.mpr c103;have c103b1:(t507 !=0)=true:=bne_iff_ne.mpr c103
                                                                first|(simp at H;done)|(have HE_:=Option.some.inj H;clear H;go_wp2;repeat(go_quiet (fail);try go_wp2);go_ret;exact⟨by first|rfl|(simp;exact eq_of_beq HE_)|(rw [HE_];done)|(simp [errW_none,errW_some] <;> rfl)|(simp [*,errW_none,errW_some] <;> rfl),by repeat(first|(with_reducible first|exact HB.1|apply below_alloc|apply pw_below_drewN|apply below_drew1)|exact HB.1)⟩)
                                                            · rw [if_neg c102] at H
                                                              have c102b0:(t498==0)=false:=beq_eq_false_iff_ne.mpr c102;have c102b1:(t498 !=0)=true:=bne_iff_ne.mpr c102
                                                              first|(simp at H;done)|(have HE_:=Option.some.inj H;clear H;go_wp2;repeat(go_quiet (fail);try go_wp2);go_ret;exact⟨by first|rfl|(simp;exact eq_of_beq HE_)|(rw [HE_];done)|(simp [errW_none,errW_some] <;> rfl)|(simp [*,errW_none,errW_some] <;> rfl),by repeat(first|(with_reducible first|exact HB.1|apply below_alloc|apply pw_below_drewN|apply below_drew1)|exact HB.1)⟩)
                                                          · rw [if_neg c101] at H
                                                            have c101b0:(t516==0)=false:=beq_eq_false_iff_ne.mpr c101;have c101b1:(t516 !=0)=true:=bne_iff_ne.mpr c101
                                                            first|(simp at H;done)|(have HE_:=Option.some.inj H;clear H;go_wp2;repeat(go_quiet (fail);try go_wp2);go_ret;exact⟨by first|rfl|(simp;exact eq_of_beq HE_)|(rw [HE_];done)|(simp [errW_none,errW_some] <;> rfl)|(simp [*,errW_none,errW_some] <;> rfl),by repeat(first|(with_reducible first|exact HB.1|apply below_alloc|apply pw_below_drewN|apply below_drew1)|exact HB.1)⟩)
                                                  · rw [if_neg c79] at H
                                                    have c79b0:(t462==0)=false:=beq_eq_false_iff_ne.mpr c79;have c79b1:(t462 !=0)=true:=bne_iff_ne.mpr c79
                                                    by_cases c105:(t461.length:Int)=0
                                                    · rw [if_pos c105] at H
                                                      have c105b0:((t461.length:Int)==0)=true:=beq_iff_eq.mpr c105;have c105b1:((t461.length:Int) !=0)=false:=bne_eq_false_iff_eq.mpr c105;clear c105
                                                      by_cases c106:t498=t462
                                                      · rw [if_pos c106] at H
                                                        have c106b0:(t498==t462)=true:=beq_iff_eq.mpr c106;have c106b1:(t498 !=t462)=false:=bne_eq_false_iff_eq.mpr c106;clear c106;have HE_:=Option.some.inj H;clear H;obtain⟨Ao107,co107,eo107⟩:=Kd.S_slice HO_5.1;subst eo107;go_wp2;repeat(go_quiet (fail);try go_wp2)
                                                        go_ret;exact⟨by first|rfl|(simp;exact eq_of_beq HE_)|(rw [HE_];done)|(simp [errW_none,errW_some] <;> rfl)|(simp [*,errW_none,errW_some] <;> rfl),by repeat(first|(with_reducible first|exact HB.1|apply below_alloc|apply pw_below_drewN|apply below_drew1)|exact HB.1)⟩
                                                      · rw [if_neg c106] at H
                                                        cases H
                                                    · rw [if_neg c105] at H
                                                      cases H

/-- THE ONE PURE STATEMENT of laws_FnPeriods: yours. -/
def laws_FnPeriods.Pure:Prop:=∀(l0:List Int),l0.length≤maxLen→l0.length*1≤140737488351232→(∀x∈l0,(Lit.int .u8 x).wf=true)→∃k,laws_FnPeriods.f k l0=some true
theorem laws_FnPeriods.walk (P:laws_FnPeriods.Pure) (a0:Option Addr) (len0 cap0:Nat) (z0:List Int) (w:World) (w0:(a0=none∧len0=0∧cap0=0∧z0=[])∨∃x,a0=some x∧len0≤cap0∧cap0≤maxLen∧z0.length=cap0∧(∀i,i<z0.length→w.cell? (x.add i)=some (.int .u8 (z0.getD i 0)))∧∀n∈z0,(Lit.int .u8 n).wf=true) (y0:len0*1≤140737488351232):
    Calls Try.prog 8 #[.slice a0 len0 cap0] w fun e w'=>e=.returned (.bool true)∧Below w.heap.size w w':=by
  obtain⟨l0,rfl,hr0,hm0,hw0,hc0⟩:=ReadsInt.ofRowC w0;obtain⟨k,h⟩:=P l0 hm0 y0 hw0;refine(laws_FnPeriods.calls k _ _ l0 w (Kd.C_of_reads (d:=(0:Int)) (h1:=fun _=>rfl) hr0) hc0 h).mono ?_;rintro e w' ⟨rfl,hd⟩;exact⟨rfl,hd⟩

end Go.Proofs.Ytefhabkikaadiaa.PFnPeriods
