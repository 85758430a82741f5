/- The functions that the law reaches, as plain functions, each with the proof that the program comes to it; no condition. Written by a program of this session (wip/mp.py) over the printing of the kit; what is marked HAND is told by hand. -/
import Derived.Test.YtefhabkikaadiaaPFnExactCycloAtResiduesx0
import Derived.Test.YtefhabkikaadiaaPFnExactCycloAtResiduesx5
import Derived.Test.YtefhabkikaadiaaPFnExactCycloAtResiduesx8
namespace Go.Proofs.Ytefhabkikaadiaa.PFnExactCycloAtResidues
open Go.RowKit Go.Proofs.YtefhabkikaadiaaW.PrintWords Go.Proofs.YtefhabkikaadiaaW.PrintLast Go.Proofs.YtefhabkikaadiaaW.PrintMore
attribute [local go_sem] max2_int min2_int max_two min_two max_three min_three max_four min_four   -- for this text's walks alone
set_option linter.unusedVariables false
set_option linter.unusedSimpArgs false

/-! ### impl_CycloAtResidues: function 31 -/
-- HAND
theorem hca_within (a0 a1 a2:Int) (w:World):
    Calls Try.prog 87 #[.int .i64 a0,.int .i64 a1,.int .i64 a2] w fun e w'=>e=.returned (.bool (decide (a1≤a0) && decide (a0≤a2)))∧Drawn0 w w':=by
  by_cases h1:a1≤a0 <;> by_cases h2:a0≤a2
  all_goals
    go_enter Try.func87,Try.ntmps87;go_wp2;go_ret;exact⟨by simp [*],Drawn0.refl _⟩

theorem hca_cl (n m:Int) (B:Nat) (w:World) (hc:w.cell? ⟨B,0,none⟩=some (.int .i64 m)):
    Calls Try.prog 86 #[.int .i64 n,.pointer (some ⟨B,0,none⟩)] w fun e w'=>e=.returned (.bool (!(decide (0≤n) && decide (n≤wrap64 (m - 1)))))∧Drawn0 w w':=by
  go_enter Try.func86,Try.ntmps86;go_wp2_with (go_at_call 87;refine(hca_within _ _ _ _).mono ?_;rintro e w' ⟨rfl,⟨nd,rfl⟩⟩);go_ret;exact⟨by simp,⟨_,rfl⟩⟩

def hca_p (m n:Int):Bool:=decide (0≤n) && decide (n≤wrap64 (m - 1))
def hca_ix (m:Int) (l:List Int) (i:Int):Prop:=decide (0≤i)=!(l.all (hca_p m))

theorem hca_all {m:Int} {l:List Int} (h:∀j,j<l.length→hca_p m (l.getD j 0)=true):l.all (hca_p m)=true:=by
  rw [List.all_eq_true];intro x hx;obtain⟨j,hj,rfl⟩:=List.getElem_of_mem hx;have:=h j hj
  rwa [List.getD_eq_getElem?_getD,List.getElem?_eq_getElem hj] at this

theorem hca_any {m:Int} {l:List Int} {j:Nat} (hj:j<l.length) (h:hca_p m (l.getD j 0)=false):l.all (hca_p m)=false:=by
  rw [Bool.eq_false_iff];intro h2;rw [List.all_eq_true] at h2;have:=h2 (l.getD j 0) (by rw [List.getD_eq_getElem?_getD,List.getElem?_eq_getElem hj];exact List.getElem_mem hj);rw [h] at this;cases this

theorem hca_cl' (n m:Int) (B:Nat) (w:World) (b:Bool) (hc:w.cell? ⟨B,0,none⟩=some (.int .i64 m)) (hb:hca_p m n=b):
    Calls Try.prog 86 #[.int .i64 n,.pointer (some ⟨B,0,none⟩)] w fun e w'=>e=.returned (.bool (!b))∧Drawn0 w w':=by
  subst hb;exact hca_cl n m B w hc

set_option maxHeartbeats 1000000 in
theorem hca_index (A:Option Addr) (c:Nat) (l:List Int) (m:Int) (B:Nat) (w:World) (hr:Kd.C (Kd.int .i64) w A l.length l) (hc:w.cell? ⟨B,0,none⟩=some (.int .i64 m)):
    Calls Try.prog 109 #[.slice A l.length c,.func (.func 86) #[] #[.pointer (some ⟨B,0,none⟩)]] w fun e w'=>∃i:Int,e=.returned (.int .i64 i)∧Aside0 (hca_ix m l i)∧Drawn0 w w':=by
  have HR:=qAm hr;have HL:l.length≤9223372036854775807:=hr.2.1;clear hr;go_enter Try.func109,Try.ntmps109;go_wp2;go_loopg [8] (l.length+1) (fun kq v8 w'=>∃k:Nat,v8=.int .i64 k∧Aside0 (kq+k=l.length+1∧k≤l.length∧∀j,j<k→hca_p m (l.getD j 0)=true)∧Drawn0 w w')
  case atStart=>exact⟨0,rfl,⟨by omega,by omega,fun j hj=>by omega⟩,Drawn0.refl _⟩
  case round=>
    obtain⟨k,rfl,HA,⟨m1,rfl⟩⟩:=hrel
    by_cases hlt:k<l.length
    · obtain⟨ad,hA,hx⟩:=Kd.at_int HR.1 (k:Int) (by omega) (by omega)
      cases hA
      have hx':w.cell? (ad.add k)=some (.int .i64 (rd l k)):=by simpa using hx
      clear hx;cases hb:hca_p m (rd l k) with
      |true=>
        have HB:=qAm hb;clear hb;go_wp2_with (go_at_call 86;refine(hca_cl' _ _ _ _ true (by simpa using hc) HB.1).mono ?_;rintro e w' ⟨rfl,⟨nd,rfl⟩⟩);go_roundg (gk - 1)
        case measure=>have:=HA.1;omega
        case rel=>
          refine⟨k+1,by go_num,⟨by have:=HA.1;omega,by omega,fun j hj=>?_⟩,⟨_,rfl⟩⟩
          by_cases hj':j<k
          · exact HA.1.2.2 j hj'
          · obtain rfl:j=k:=by omega
            exact HB.1
      |false=>
        have HB:=qAm hb;clear hb;go_wp2_with (go_at_call 86;refine(hca_cl' _ _ _ _ false (by simpa using hc) HB.1).mono ?_;rintro e w' ⟨rfl,⟨nd,rfl⟩⟩);go_ret;exact⟨(k:Int),rfl,⟨by unfold hca_ix;rw [hca_any hlt HB.1];simp⟩,⟨_,rfl⟩⟩
    · go_wp2
      go_ret;exact⟨-1,rfl,⟨by unfold hca_ix;rw [hca_all (fun j hj=>HA.1.2.2 j (by omega))];simp⟩,⟨_,rfl⟩⟩

theorem hca_contains (A:Option Addr) (c:Nat) (l:List Int) (m:Int) (B:Nat) (w:World) (hr:Kd.C (Kd.int .i64) w A l.length l) (hc:w.cell? ⟨B,0,none⟩=some (.int .i64 m)):
    Calls Try.prog 85 #[.slice A l.length c,.func (.func 86) #[] #[.pointer (some ⟨B,0,none⟩)]] w fun e w'=>e=.returned (.bool (!(l.all (hca_p m))))∧Drawn0 w w':=by
  have HR:=qAm hr;clear hr;go_enter Try.func85,Try.ntmps85;go_wp2_with (go_at_call 109;refine(hca_index _ _ l m B _ HR.1 hc).mono ?_;rintro e w' ⟨i,rfl,hi,⟨nd,rfl⟩⟩);go_ret;exact⟨by have:=hi.1;unfold hca_ix at this;rw [← this];rfl,⟨_,rfl⟩⟩

theorem hca_out (A:Option Addr) (c:Nat) (l:List Int) (m:Int) (B:Nat) (t:Bool) (w:World) (hr:Kd.C (Kd.int .i64) w A l.length l) (hc:w.cell? ⟨B,0,none⟩=some (.int .i64 m)) (ht:impl_anyOut.f l m=some t):
    Calls Try.prog 85 #[.slice A l.length c,.func (.func 86) #[] #[.pointer (some ⟨B,0,none⟩)]] w fun e w'=>e=.returned (.bool t)∧Drawn0 w w':=by
  have e:t=!(l.all (hca_p m)):=by
    rw [← Option.some.inj ht,List.not_all_eq_any_not];rfl
  rw [e];exact hca_contains A c l m B w hr hc
mutual
def impl_CycloAtResidues.j0:Nat→Int→List Int→List Int→Bool→Int→Option (Int×List Int×Int)
  |0,_,_,_,_,_=>none
  |k+1,x0,x2,x8,x42,x254000=>if x42=true then (some (0,([]:List Int),2)) else (if 0≤(x8.length:Int) then (if ((x8.length:Int):Int).toNat≤35184372088832 then (impl_CycloAtResidues.l0 k x0 x2 x8 (List.replicate ((x8.length:Int):Int).toNat 0) (x8.length:Int) 0 x254000) else (none)) else (none))
def impl_CycloAtResidues.l0:Nat→Int→List Int→List Int→List Int→Int→Int→Int→Option (Int×List Int×Int)
  |0,_,_,_,_,_,_,_=>none
  |k+1,x0,x2,x8,x10,x48,x49,x254000=>if x49<x48 then (if 0≤x49 then (if x49<(x8.length:Int) then (impl_CycloAtResidues.l1 k x0 x2 x8 x10 x49 (rd x8 x49) (([1]:List Int)) 1 x48 x49 (x8.length:Int) 0 x254000) else (none)) else (none)) else (some (x0,x10,0))
def impl_CycloAtResidues.l1:Nat→Int→List Int→List Int→List Int→Int→Int→List Int→Int→Int→Int→Int→Int→Int→Option (Int×List Int×Int)
  |0,_,_,_,_,_,_,_,_,_,_,_,_,_=>none
  |k+1,x0,x2,x8,x10,x11,x12,x13,x14,x48,x49,x56,x57,x254000=>if x57<x56 then (if 0≤x57 then (if x57<(x8.length:Int) then (if x57=x11 then (impl_CycloAtResidues.l1 k x0 x2 x8 x10 x11 x12 x13 x14 x48 x49 x56 (wrap64 (x57+1)) x254000) else (if 0≤(wrap64 ((x13.length:Int)+1)) then (if (wrap64 ((x13.length:Int)+1):Int).toNat≤35184372088832 then (impl_CycloAtResidues.l2 k x0 x2 x8 x10 x11 x12 x13 x14 (rd x8 x57) (List.replicate (wrap64 ((x13.length:Int)+1):Int).toNat 0) x48 x49 x56 x57 (x13.length:Int) 0 x254000) else (none)) else (none))) else (none)) else (none)) else (if 0≤x11 then (if x11<(x2.length:Int) then ((impl_power.f k x14 (wrap64 (x254000 - 2)) x254000).bind fun t280=>(if x254000=0 then (none) else (impl_CycloAtResidues.l3 k x0 x2 x8 x10 x13 (Int.tmod (wrap64 ((rd x2 x11)*t280)) x254000) x48 x49 (x13.length:Int) 0 x254000))) else (none)) else (none))
def impl_CycloAtResidues.l2:Nat→Int→List Int→List Int→List Int→Int→Int→List Int→Int→Int→List Int→Int→Int→Int→Int→Int→Int→Int→Option (Int×List Int×Int)
  |0,_,_,_,_,_,_,_,_,_,_,_,_,_,_,_,_,_=>none
  |k+1,x0,x2,x8,x10,x11,x12,x13,x14,x16,x17,x48,x49,x56,x57,x70,x71,x254000=>if x71<x70 then (if 0≤x71 then (if x71<(x13.length:Int) then (if 0≤(wrap64 (x71+1)) then (if (wrap64 (x71+1))<(x17.length:Int) then ((impl_around.f (wrap64 ((rd x17 (wrap64 (x71+1)))+(rd x13 x71))) x254000).bind fun t273=>((some (x17.set ((wrap64 (x71+1)):Int).toNat t273:List Int)).bind fun y274=>(if x71<(x17.length:Int) then ((impl_around.f (wrap64 ((rd y274 x71) - (wrap64 ((rd x13 x71)*x16)))) x254000).bind fun t276=>(impl_CycloAtResidues.l2 k x0 x2 x8 x10 x11 x12 x13 x14 x16 (y274.set (x71:Int).toNat t276) x48 x49 x56 x57 x70 (wrap64 (x71+1)) x254000)) else (none)))) else (none)) else (none)) else (none)) else (none)) else ((impl_around.f (wrap64 (x14*(wrap64 (x12 - x16)))) x254000).bind fun t278=>(impl_CycloAtResidues.l1 k x0 x2 x8 x10 x11 x12 x17 t278 x48 x49 x56 (wrap64 (x57+1)) x254000))
def impl_CycloAtResidues.l3:Nat→Int→List Int→List Int→List Int→List Int→Int→Int→Int→Int→Int→Int→Option (Int×List Int×Int)
  |0,_,_,_,_,_,_,_,_,_,_,_=>none
  |k+1,x0,x2,x8,x10,x13,x20,x48,x49,x125,x126,x254000=>if x126<x125 then (if 0≤x126 then (if x126<(x13.length:Int) then (if x126<(x10.length:Int) then (if x254000=0 then (none) else (impl_CycloAtResidues.l3 k x0 x2 x8 (x10.set (x126:Int).toNat (Int.tmod (wrap64 ((rd x10 x126)+(wrap64 ((rd x13 x126)*x20)))) x254000)) x13 x20 x48 x49 x125 (wrap64 (x126+1)) x254000)) else (none)) else (none)) else (none)) else (impl_CycloAtResidues.l0 k x0 x2 x8 x10 x48 (wrap64 (x49+1)) x254000)
end
def impl_CycloAtResidues.f (k:Nat) (a0:Int) (a1:Int) (l2:List Int):Option (Int×List Int×Int):=(impl_rootsFor.f k a0 a1).bind fun bt255=>(if bt255.2=true then (if (l2.length:Int)=(bt255.1.length:Int) then ((impl_anyOut.f l2 a1).bind fun t259=>(impl_CycloAtResidues.j0 k a0 l2 bt255.1 t259 a1)) else (impl_CycloAtResidues.j0 k a0 l2 bt255.1 true a1)) else (impl_CycloAtResidues.j0 k a0 l2 bt255.1 true a1))
theorem impl_CycloAtResidues.mono_l:∀k,(∀y0 y1 y2 y3 y4,LeO (impl_CycloAtResidues.j0 k y0 y1 y2 y3 y4) (impl_CycloAtResidues.j0 (k+1) y0 y1 y2 y3 y4))∧(∀y0 y1 y2 y3 y4 y5 y6,LeO (impl_CycloAtResidues.l0 k y0 y1 y2 y3 y4 y5 y6) (impl_CycloAtResidues.l0 (k+1) y0 y1 y2 y3 y4 y5 y6))∧(∀y0 y1 y2 y3 y4 y5 y6 y7 y8 y9 y10 y11 y12,LeO (impl_CycloAtResidues.l1 k y0 y1 y2 y3 y4 y5 y6 y7 y8 y9 y10 y11 y12) (impl_CycloAtResidues.l1 (k+1) y0 y1 y2 y3 y4 y5 y6 y7 y8 y9 y10 y11 y12))∧(∀y0 y1 y2 y3 y4 y5 y6 y7 y8 y9 y10 y11 y12 y13 y14 y15 y16,LeO (impl_CycloAtResidues.l2 k y0 y1 y2 y3 y4 y5 y6 y7 y8 y9 y10 y11 y12 y13 y14 y15 y16) (impl_CycloAtResidues.l2 (k+1) y0 y1 y2 y3 y4 y5 y6 y7 y8 y9 y10 y11 y12 y13 y14 y15 y16))∧(∀y0 y1 y2 y3 y4 y5 y6 y7 y8 y9 y10,LeO (impl_CycloAtResidues.l3 k y0 y1 y2 y3 y4 y5 y6 y7 y8 y9 y10) (impl_CycloAtResidues.l3 (k+1) y0 y1 y2 y3 y4 y5 y6 y7 y8 y9 y10))
  |0=>⟨fun _ _ _ _ _ r h=>by simp [impl_CycloAtResidues.j0] at h,fun _ _ _ _ _ _ _ r h=>by simp [impl_CycloAtResidues.l0] at h,fun _ _ _ _ _ _ _ _ _ _ _ _ _ r h=>by simp [impl_CycloAtResidues.l1] at h,fun _ _ _ _ _ _ _ _ _ _ _ _ _ _ _ _ _ r h=>by simp [impl_CycloAtResidues.l2] at h,fun _ _ _ _ _ _ _ _ _ _ _ r h=>by simp [impl_CycloAtResidues.l3] at h⟩
  |k+1=>by
    obtain⟨ih0,ih1,ih2,ih3,ih4⟩:=impl_CycloAtResidues.mono_l k;refine⟨?_,?_,?_,?_,?_⟩
    · intro y0 y1 y2 y3 y4
      unfold impl_CycloAtResidues.j0;repeat' first
      |(with_reducible exact ih0 _ _ _ _ _)
      |(with_reducible exact ih1 _ _ _ _ _ _ _)
      |(with_reducible exact ih2 _ _ _ _ _ _ _ _ _ _ _ _ _)
      |(with_reducible exact ih3 _ _ _ _ _ _ _ _ _ _ _ _ _ _ _ _ _)
      |(with_reducible exact ih4 _ _ _ _ _ _ _ _ _ _ _)
      |(with_reducible exact impl_power.mono _ _ _ _)
      |(with_reducible exact impl_rootsFor.mono _ _ _)
      |(with_reducible exact LeO.refl _)
      |(with_reducible exact LeO.none _)
      |(with_reducible refine LeO.ite ?_ ?_)
      |(with_reducible refine LeO.bind ?_ (fun _=>?_))
      |exact ih0 _ _ _ _ _
      |exact ih1 _ _ _ _ _ _ _
      |exact ih2 _ _ _ _ _ _ _ _ _ _ _ _ _
      |exact ih3 _ _ _ _ _ _ _ _ _ _ _ _ _ _ _ _ _
      |exact ih4 _ _ _ _ _ _ _ _ _ _ _
      |exact impl_power.mono _ _ _ _
      |exact impl_rootsFor.mono _ _ _
      |exact LeO.none _
      |refine LeO.ite ?_ ?_
      |refine LeO.bind ?_ (fun _=>?_)
    · intro y0 y1 y2 y3 y4 y5 y6
      unfold impl_CycloAtResidues.l0;repeat' first
      |(with_reducible exact ih0 _ _ _ _ _)
      |(with_reducible exact ih1 _ _ _ _ _ _ _)
      |(with_reducible exact ih2 _ _ _ _ _ _ _ _ _ _ _ _ _)
      |(with_reducible exact ih3 _ _ _ _ _ _ _ _ _ _ _ _ _ _ _ _ _)
      |(with_reducible exact ih4 _ _ _ _ _ _ _ _ _ _ _)
      |(with_reducible exact impl_power.mono _ _ _ _)
      |(with_reducible exact impl_rootsFor.mono _ _ _)
      |(with_reducible exact LeO.refl _)
      |(with_reducible exact LeO.none _)
      |(with_reducible refine LeO.ite ?_ ?_)
      |(with_reducible refine LeO.bind ?_ (fun _=>?_))
      |exact ih0 _ _ _ _ _
      |exact ih1 _ _ _ _ _ _ _
      |exact ih2 _ _ _ _ _ _ _ _ _ _ _ _ _
      |exact ih3 _ _ _ _ _ _ _ _ _ _ _ _ _ _ _ _ _
      |exact ih4 _ _ _ _ _ _ _ _ _ _ _
      |exact impl_power.mono _ _ _ _
      |exact impl_rootsFor.mono _ _ _
      |exact LeO.none _
      |refine LeO.ite ?_ ?_
      |refine LeO.bind ?_ (fun _=>?_)
    · intro y0 y1 y2 y3 y4 y5 y6 y7 y8 y9 y10 y11 y12
      unfold impl_CycloAtResidues.l1;repeat' first
      |(with_reducible exact ih0 _ _ _ _ _)
      |(with_reducible exact ih1 _ _ _ _ _ _ _)
      |(with_reducible exact ih2 _ _ _ _ _ _ _ _ _ _ _ _ _)
      |(with_reducible exact ih3 _ _ _ _ _ _ _ _ _ _ _ _ _ _ _ _ _)
      |(with_reducible exact ih4 _ _ _ _ _ _ _ _ _ _ _)
      |(with_reducible exact impl_power.mono _ _ _ _)
      |(with_reducible exact impl_rootsFor.mono _ _ _)
      |(with_reducible exact LeO.refl _)
      |(with_reducible exact LeO.none _)
      |(with_reducible refine LeO.ite ?_ ?_)
      |(with_reducible refine LeO.bind ?_ (fun _=>?_))
      |exact ih0 _ _ _ _ _
      |exact ih1 _ _ _ _ _ _ _
      |exact ih2 _ _ _ _ _ _ _ _ _ _ _ _ _
      |exact ih3 _ _ _ _ _ _ _ _ _ _ _ _ _ _ _ _ _
      |exact ih4 _ _ _ _ _ _ _ _ _ _ _
      |exact impl_power.mono _ _ _ _
      |exact impl_rootsFor.mono _ _ _
      |exact LeO.none _
      |refine LeO.ite ?_ ?_
      |refine LeO.bind ?_ (fun _=>?_)
    · intro y0 y1 y2 y3 y4 y5 y6 y7 y8 y9 y10 y11 y12 y13 y14 y15 y16
      unfold impl_CycloAtResidues.l2;repeat' first
      |(with_reducible exact ih0 _ _ _ _ _)
      |(with_reducible exact ih1 _ _ _ _ _ _ _)
      |(with_reducible exact ih2 _ _ _ _ _ _ _ _ _ _ _ _ _)
      |(with_reducible exact ih3 _ _ _ _ _ _ _ _ _ _ _ _ _ _ _ _ _)
      |(with_reducible exact ih4 _ _ _ _ _ _ _ _ _ _ _)
      |(with_reducible exact impl_power.mono _ _ _ _)
      |(with_reducible exact impl_rootsFor.mono _ _ _)
      |(with_reducible exact LeO.refl _)
      |(with_reducible exact LeO.none _)
      |(with_reducible refine LeO.ite ?_ ?_)
      |(with_reducible refine LeO.bind ?_ (fun _=>?_))
      |exact ih0 _ _ _ _ _
      |exact ih1 _ _ _ _ _ _ _
      |exact ih2 _ _ _ _ _ _ _ _ _ _ _ _ _
      |exact ih3 _ _ _ _ _ _ _ _ _ _ _ _ _ _ _ _ _
      |exact ih4 _ _ _ _ _ _ _ _ _ _ _
      |exact impl_power.mono _ _ _ _
      |exact impl_rootsFor.mono _ _ _
      |exact LeO.none _
      |refine LeO.ite ?_ ?_
      |refine LeO.bind ?_ (fun _=>?_)
    · intro y0 y1 y2 y3 y4 y5 y6 y7 y8 y9 y10
      unfold impl_CycloAtResidues.l3;repeat' first
      |(with_reducible exact ih0 _ _ _ _ _)
      |(with_reducible exact ih1 _ _ _ _ _ _ _)
      |(with_reducible exact ih2 _ _ _ _ _ _ _ _ _ _ _ _ _)
      |(with_reducible exact ih3 _ _ _ _ _ _ _ _ _ _ _ _ _ _ _ _ _)
      |(with_reducible exact ih4 _ _ _ _ _ _ _ _ _ _ _)
      |(with_reducible exact impl_power.mono _ _ _ _)
      |(with_reducible exact impl_rootsFor.mono _ _ _)
      |(with_reducible exact LeO.refl _)
      |(with_reducible exact LeO.none _)
      |(with_reducible refine LeO.ite ?_ ?_)
      |(with_reducible refine LeO.bind ?_ (fun _=>?_))
      |exact ih0 _ _ _ _ _
      |exact ih1 _ _ _ _ _ _ _
      |exact ih2 _ _ _ _ _ _ _ _ _ _ _ _ _
      |exact ih3 _ _ _ _ _ _ _ _ _ _ _ _ _ _ _ _ _
      |exact ih4 _ _ _ _ _ _ _ _ _ _ _
      |exact impl_power.mono _ _ _ _
      |exact impl_rootsFor.mono _ _ _
      |exact LeO.none _
      |refine LeO.ite ?_ ?_
      |refine LeO.bind ?_ (fun _=>?_)
theorem impl_CycloAtResidues.mono:∀a0 a1 a2 k,LeO (impl_CycloAtResidues.f k a0 a1 a2) (impl_CycloAtResidues.f (k+1) a0 a1 a2):=by
  intro a0 a1 a2 k;obtain⟨ih0,ih1,ih2,ih3,ih4⟩:=impl_CycloAtResidues.mono_l k;unfold impl_CycloAtResidues.f;repeat' first
      |(with_reducible exact ih0 _ _ _ _ _)
      |(with_reducible exact ih1 _ _ _ _ _ _ _)
      |(with_reducible exact ih2 _ _ _ _ _ _ _ _ _ _ _ _ _)
      |(with_reducible exact ih3 _ _ _ _ _ _ _ _ _ _ _ _ _ _ _ _ _)
      |(with_reducible exact ih4 _ _ _ _ _ _ _ _ _ _ _)
      |(with_reducible exact impl_power.mono _ _ _ _)
      |(with_reducible exact impl_rootsFor.mono _ _ _)
      |(with_reducible exact LeO.refl _)
      |(with_reducible exact LeO.none _)
      |(with_reducible refine LeO.ite ?_ ?_)
      |(with_reducible refine LeO.bind ?_ (fun _=>?_))
      |exact ih0 _ _ _ _ _
      |exact ih1 _ _ _ _ _ _ _
      |exact ih2 _ _ _ _ _ _ _ _ _ _ _ _ _
      |exact ih3 _ _ _ _ _ _ _ _ _ _ _ _ _ _ _ _ _
      |exact ih4 _ _ _ _ _ _ _ _ _ _ _
      |exact impl_power.mono _ _ _ _
      |exact impl_rootsFor.mono _ _ _
      |exact LeO.none _
      |refine LeO.ite ?_ ?_
      |refine LeO.bind ?_ (fun _=>?_)
def impl_CycloAtResidues.T17:Bool×List (List Nat×List Nat):=(true,[([],[]),([],[]),([1],[1]),([],[]),([],[]),([4],[4]),([3,5],[3,5]),([6],[6]),([],[]),([7,8],[7,8]),([],[]),([9,10],[9,10]),([0,2,0,1,2,3,4,5,6,7,8,9,10,11],[0,2]),([12,11,11,0,1,2,3,4,5,6,7,8,9,10,11],[11,12])])
def impl_CycloAtResidues.B17:List Nat:=[0,0,2,0,0,16,56,120,0,504,0,2040,4095,8191]
theorem impl_CycloAtResidues.tab17:rtab .any (opsOf Try.f31 17)=impl_CycloAtResidues.T17:=by kernel_rfl
theorem impl_CycloAtResidues.bits17:waitsOk impl_CycloAtResidues.T17.2 impl_CycloAtResidues.B17=true:=by kernel_rfl
def impl_CycloAtResidues.T18:Bool×List (List Nat×List Nat):=(true,[([],[]),([],[]),([],[]),([],[]),([2,3],[2,3]),([4],[4]),([],[]),([],[]),([6,7],[6,7]),([5,8],[5,8]),([],[]),([9,10],[9,10]),([0,1,0,1,2,3,4,5,6,7,8,9,10,11],[0,1]),([12,11,11,0,1,2,3,4,5,6,7,8,9,10,11],[11,12])])
def impl_CycloAtResidues.B18:List Nat:=[0,0,0,0,12,28,0,0,192,508,0,2044,4095,8191]
theorem impl_CycloAtResidues.tab18:rtab .any (opsOf Try.f31 18)=impl_CycloAtResidues.T18:=by kernel_rfl
theorem impl_CycloAtResidues.bits18:waitsOk impl_CycloAtResidues.T18.2 impl_CycloAtResidues.B18=true:=by kernel_rfl
def impl_CycloAtResidues.T22:Bool×List (List Nat×List Nat):=(true,[([],[]),([],[]),([0,1],[0,1]),([2],[2]),([],[]),([],[]),([5],[5]),([],[]),([4,6,7],[4,6,7]),([3,8],[3,8]),([],[]),([9,10],[9,10]),([11,8,0,1,2,3,4,5,6,7,8,9,10,11],[11])])
def impl_CycloAtResidues.B22:List Nat:=[0,0,3,7,0,0,32,0,240,511,0,2047,4095]
theorem impl_CycloAtResidues.tab22:rtab .any (opsOf Try.f31 22)=impl_CycloAtResidues.T22:=by kernel_rfl
theorem impl_CycloAtResidues.bits22:waitsOk impl_CycloAtResidues.T22.2 impl_CycloAtResidues.B22=true:=by kernel_rfl
def impl_CycloAtResidues.T26:Bool×List (List Nat×List Nat):=(true,[([],[]),([],[]),([],[]),([],[]),([2,3],[2,3]),([4],[4]),([],[]),([],[]),([6,7],[6,7]),([5,8],[5,8]),([],[]),([9,10],[9,10]),([0,1,0,1,2,3,4,5,6,7,8,9,10,11],[0,1]),([12,11,0,1,2,3,4,5,6,7,8,9,10,11],[11,12])])
def impl_CycloAtResidues.B26:List Nat:=[0,0,0,0,12,28,0,0,192,508,0,2044,4095,8191]
theorem impl_CycloAtResidues.tab26:rtab .any (opsOf Try.f31 26)=impl_CycloAtResidues.T26:=by kernel_rfl
theorem impl_CycloAtResidues.bits26:waitsOk impl_CycloAtResidues.T26.2 impl_CycloAtResidues.B26=true:=by kernel_rfl
set_option maxHeartbeats 8000000 in
set_option maxRecDepth 100000 in
theorem impl_CycloAtResidues.calls (k:Nat) (a0:Int) (a1:Int) (A2:Option Addr) (c2:Nat) (l2:List Int) (r1:Int) (r2:List Int) (r3:Int) (w:World) (hr2:Kd.C (Kd.int .i64) w A2 l2.length l2) (hc2:l2.length≤c2) (h:impl_CycloAtResidues.f k a0 a1 l2=some (r1,r2,r3)):
    Calls Try.prog 31 #[.int .i64 a0,.int .i64 a1,.slice A2 l2.length c2] w fun e w'=>∃v1_:Value,e=.returned (.tuple #[.agg #[.int .i64 r1,v1_],.int .i64 r3])∧Kd.R (Kd.int .i64) 2 w' w.heap.size (fun _=>True) v1_ r2∧Below w.heap.size w w':=by
  have hu28:=Try.underlying28;have HR2:=qAm hr2;have HC2:=qAm hc2;clear hr2 hc2;have HB:=qAm (Below.refl w.heap.size w);have H:((impl_rootsFor.f k a0 a1).bind fun bt255=>(if bt255.2=true then (if (l2.length:Int)=(bt255.1.length:Int) then ((impl_anyOut.f l2 a1).bind fun t259=>(impl_CycloAtResidues.j0 k a0 l2 bt255.1 t259 a1)) else (impl_CycloAtResidues.j0 k a0 l2 bt255.1 true a1)) else (impl_CycloAtResidues.j0 k a0 l2 bt255.1 true a1)))=some (r1,r2,r3):=h;clear h;replace H:=qOb H;obtain⟨⟨t255,t256⟩,A40,H⟩:=H;replace H:(if t256=true then (if (l2.length:Int)=(t255.length:Int) then ((impl_anyOut.f l2 a1).bind fun t259=>(impl_CycloAtResidues.j0 k a0 l2 t255 t259 a1)) else (impl_CycloAtResidues.j0 k a0 l2 t255 true a1)) else (impl_CycloAtResidues.j0 k a0 l2 t255 true a1))=some (r1,r2,r3):=H;have A4:=qAm A40;clear A40;have HC5:=qAm H;clear H;go_enter Try.func31,Try.ntmps31;go_upto_region 2 with (first|((with_reducible refine gate_dst (N:=4) rfl ?_);(try(refine gate_guard (by rfl) ?_;dsimp only));refine box_event ?hg (N:=4) ?hd (cs:=#[.int .i64 a1]) (t:=2) ?hr ?_;(case hd=>rfl);(case hg=>rfl);(case hr=>first|(go_simp;done)|(go_simp;rfl));intro gb253 hg w6 hbox hb;have n0_:=qAm (below_step qB18 hb);have n1_:=qAm (hbox);have n2_:=qAm ((by rw [hg];exact(below_size qB18):w.heap.size≤gb253));have n3_:=qAm ((by rw [hg];exact(below_size qB18):w.heap.size≤gb253));clear HB;have HB:=n0_;have BK253:=n1_;have GW253:=n2_;have GE253:=n3_;clear n0_ n1_ n2_ n3_;clear hb hbox hg)|((with_reducible refine gate_dst (N:=6) rfl ?_);(try(refine gate_guard (by rfl) ?_;dsimp only));refine box_event ?hg (N:=6) ?hd (cs:=#[.int .i64 0,.slice none 0 0]) (t:=28) ?hr ?_;(case hd=>rfl);(case hg=>rfl);(case hr=>first|(go_simp;done)|(go_simp;rfl));intro gb254 hg w7 hbox hb;have n0_:=qAm (blk_below (g:=gb253) (o:=.cells #[.int .i64 a1] 2 (0,0)) qB24 hb);have n1_:=qAm (below_step qB15 hb);have n2_:=qAm (hbox);have n3_:=qAm ((by rw [hg];exact(below_size qB15):w.heap.size≤gb254));have n4_:=qAm ((by rw [hg];exact(below_size qB15):w.heap.size≤gb254));have n5_:=qAm ((by rw [hg];exact Nat.ne_of_lt (blk_lt (g:=gb253) (o:=.cells #[.int .i64 a1] 2 (0,0)) qB24):gb253≠gb254));have n6_:=qAm ((by rw [hg];exact Nat.ne_of_gt (blk_lt (g:=gb253) (o:=.cells #[.int .i64 a1] 2 (0,0)) qB24):gb254≠gb253));clear BK253;clear HB;have BK253:=n0_;have HB:=n1_;have BK254:=n2_;have GW254:=n3_;have GE254:=n4_;have NB253_254:=n5_;have NB254_253:=n6_;clear n0_ n1_ n2_ n3_ n4_ n5_ n6_;clear hb hbox hg;have hnb8:=NB253_254.1;have hnc8:=NB254_253.1;have hcz9_0:w7.cell? ⟨gb253,0,none⟩=some (.int .i64 a1):=(blk_cell BK253.1 0).trans rfl;have hfz9_0:=blk_frozen BK253.1 0)|((with_reducible refine gate_callee (f:=60) rfl ?_);refine goesL_ (some 26) rfl rfl Try.func60 (by kernel_rfl) rfl #[.int .i64 a0,.int .i64 a1] rfl qB17 ?_;(with_reducible refine(impl_rootsFor.calls k a0 a1 t255 t256 _ A4.1).mono ?_);rintro e w10 ⟨v257,rfl,ho0,hb⟩;refine⟨_,rfl,?_⟩;have n0_:=qAm (Kd.R_lower (Kd.R_newB ho0 (g:=gb253) (o:=.cells #[.int .i64 a1] 2 (0,0)) qB24) (below_size qB10));have n1_:=qAm (blk_below (g:=gb253) (o:=.cells #[.int .i64 a1] 2 (0,0)) qB24 hb);have n2_:=qAm (blk_below (g:=gb254) (o:=.cells #[.int .i64 0,.slice none 0 0] 28 (0,0)) qB25 hb);have n3_:=qAm (below_step qB10 hb);clear BK253;clear BK254;clear HB;have HO258:=n0_;have BK253:=n1_;have BK254:=n2_;have HB:=n3_;clear n0_ n1_ n2_ n3_;(try clear hb);(try clear hb2);(try clear hk);(try clear hi);(try clear ho0)))
  (try simp only [Act.put,qSa,qSb,qSc])
  go_cut [42] (fun v42 wc=>∃(kq:Nat) (x42_4:Bool),v42=.bool x42_4∧Aside0 (impl_CycloAtResidues.j0 kq a0 l2 t255 x42_4 a1=some (r1,r2,r3))∧Aside0 (kq≤k)∧Aside0 (Kd.R (Kd.int .i64) 2 wc w.heap.size (fun k_=>k_≠gb253) v257 t255)∧Aside0 (wc.heap[gb253]? =some (.cells #[.int .i64 a1] 2 (0,0)))∧Aside0 (wc.heap[gb254]? =some (.cells #[.int .i64 0,(.slice none 0 0)] 28 (0,0)))∧Aside0 (Below w.heap.size w wc))
  case first=>
    have H:=HC5.1;clear HC5
    by_cases c11:t256=true
    · subst c11
      have H1:(if (l2.length:Int)=(t255.length:Int) then ((impl_anyOut.f l2 a1).bind fun t259=>(impl_CycloAtResidues.j0 k a0 l2 t255 t259 a1)) else (impl_CycloAtResidues.j0 k a0 l2 t255 true a1))=some (r1,r2,r3):=by rw [if_pos rfl] at H;exact H
      clear H;have H:=H1;clear H1
      by_cases c12:(l2.length:Int)=(t255.length:Int)
      · rw [if_pos c12] at H
        have c12b0:((l2.length:Int)==(t255.length:Int))=true:=beq_iff_eq.mpr c12;have c12b1:((l2.length:Int) !=(t255.length:Int))=false:=bne_eq_false_iff_eq.mpr c12;have c12b2:(l2.length==t255.length)=true:=by first|simpa using c12|(simp at c12 ⊢;omega)
        clear c12
        (first|rw [c12b0]|(simp only [i64_w,i32_w];rw [c12b0])|skip)
        replace H:=qOb H;obtain⟨t259,A130,H⟩:=H;replace H:(impl_CycloAtResidues.j0 k a0 l2 t255 t259 a1)=some (r1,r2,r3):=H;have A13:=qAm A130;clear A130;have H':=qAm H;clear H;obtain⟨Ao14,co14,eo14⟩:=Kd.R_slice HO258.1;subst eo14;have hnb15:=NB253_254.1;have hnc15:=NB254_253.1;have hcz16_0:w10.cell? ⟨gb253,0,none⟩=some (.int .i64 a1):=(blk_cell BK253.1 0).trans rfl;have hfz16_0:=blk_frozen BK253.1 0;have hmf:∀(fn:Fn) (first cap:Array Value) (w:World),(Instr.makeFunc fn first cap).run Try.prog w=.ok (.func fn first cap) w:=fun _ _ _ _=>rfl
        go_wp2_with (go_at_call 85;refine(hca_out A2 c2 l2 a1 gb253 t259 _ (Kd.C_below HR2.1 HB.1) (by simpa using hcz16_0) A13.1).mono ?_;rintro e w' ⟨rfl,⟨nd,rfl⟩⟩);go_meet
        case rel=>exact⟨_,(t259),qB52,H',⟨by first|omega|exact Nat.le_refl _⟩,⟨by (with_reducible repeat(first|apply Kd.R_alloc|apply Kd.R_drewN|apply Kd.R_drew));exact Kd.R_mono HO258.1 (fun _ hk=>hk.2)⟩,⟨by (with_reducible repeat(first|refine blk_drewN ?_ _|refine blk_drew ?_|refine blk_alloc ?_ _));exact BK253.1⟩,⟨by (with_reducible repeat(first|refine blk_drewN ?_ _|refine blk_drew ?_|refine blk_alloc ?_ _));exact BK254.1⟩,⟨by repeat(first|(with_reducible first|exact HB.1|apply below_alloc|apply pw_below_drewN|apply below_drew1|refine below_set ?_ GE253.1|refine below_set ?_ GE254.1)|exact HB.1)⟩⟩
      · rw [if_neg c12] at H
        have c12b0:((l2.length:Int)==(t255.length:Int))=false:=beq_eq_false_iff_ne.mpr c12;have c12b1:((l2.length:Int) !=(t255.length:Int))=true:=bne_iff_ne.mpr c12;have c12b2:(l2.length==t255.length)=false:=by first|simpa using c12|(simp at c12 ⊢;omega)
        (first|rw [c12b0]|(simp only [i64_w,i32_w];rw [c12b0])|skip)
        have H':=qAm H;clear H;obtain⟨Ao17,co17,eo17⟩:=Kd.R_slice HO258.1;subst eo17;go_wp2;go_meet
        case rel=>exact⟨_,(true),qB52,H',⟨by first|omega|exact Nat.le_refl _⟩,⟨by (with_reducible repeat(first|apply Kd.R_alloc|apply Kd.R_drewN|apply Kd.R_drew));exact Kd.R_mono HO258.1 (fun _ hk=>hk.2)⟩,⟨by (with_reducible repeat(first|refine blk_drewN ?_ _|refine blk_drew ?_|refine blk_alloc ?_ _));exact BK253.1⟩,⟨by (with_reducible repeat(first|refine blk_drewN ?_ _|refine blk_drew ?_|refine blk_alloc ?_ _));exact BK254.1⟩,⟨by repeat(first|(with_reducible first|exact HB.1|apply below_alloc|apply pw_below_drewN|apply below_drew1|refine below_set ?_ GE253.1|refine below_set ?_ GE254.1)|exact HB.1)⟩⟩
    · replace c11:=Bool.eq_false_iff.mpr c11
      subst c11;have H1:(impl_CycloAtResidues.j0 k a0 l2 t255 true a1)=some (r1,r2,r3):=by rw [if_neg (show ¬(false=true) by decide)] at H;exact H
      clear H;have H:=H1;clear H1;have H':=qAm H;clear H;go_wp2;go_meet
      case rel=>exact⟨_,(true),qB52,H',⟨by first|omega|exact Nat.le_refl _⟩,⟨by (with_reducible repeat(first|apply Kd.R_alloc|apply Kd.R_drewN|apply Kd.R_drew));exact Kd.R_mono HO258.1 (fun _ hk=>hk.2)⟩,⟨by (with_reducible repeat(first|refine blk_drewN ?_ _|refine blk_drew ?_|refine blk_alloc ?_ _));exact BK253.1⟩,⟨by (with_reducible repeat(first|refine blk_drewN ?_ _|refine blk_drew ?_|refine blk_alloc ?_ _));exact BK254.1⟩,⟨by repeat(first|(with_reducible first|exact HB.1|apply below_alloc|apply pw_below_drewN|apply below_drew1|refine below_set ?_ GE253.1|refine below_set ?_ GE254.1)|exact HB.1)⟩⟩
  case rest=>
    clear HC5;try clear c1
    try clear c2
    try clear p2
    try clear c3
    try clear c6
    try clear c8
    try clear c11
    try clear c12
    try clear c12b0
    try clear c12b1
    try clear c12b2
    try clear c15
    try clear hcz16_0
    try clear hcz9_0
    try clear hfz16_0
    try clear hfz9_0
    obtain⟨kq,x42_4,rfl,HA,HJ4,HO_8,BK253,BK254,HB⟩:=hcut;cases kq with
    |zero=>exact absurd HA.1 (by simp [impl_CycloAtResidues.j0])
    |succ kj4=>
      have H:=HA.1;clear HA;simp only [impl_CycloAtResidues.j0] at H
      by_cases c18:x42_4=true
      · subst c18
        have H1:(some (0,([]:List Int),2))=some (r1,r2,r3):=by rw [if_pos rfl] at H;exact H
        clear H;have H:=H1;clear H1;simp only [Option.some.injEq,Prod.mk.injEq] at H;obtain⟨rfl,rfl,rfl⟩:=H;have hnb19:=NB254_253.1;have hnc19:=NB253_254.1;have hcz20_0:wc.cell? ⟨gb254,0,none⟩=some (.int .i64 0):=(blk_cell BK254.1 0).trans rfl;have hcz20_1:wc.cell? ⟨gb254,1,none⟩=some (.slice none 0 0):=(blk_cell BK254.1 1).trans rfl;have hfz20_0:=blk_frozen BK254.1 0;have hfz20_1:=blk_frozen BK254.1 1;go_wp2;refine bodyPost_ret (results_ct rfl _ _ gb254 28 #[.int .i64 0,.slice none 0 0] (0,0) _ rfl (by (with_reducible repeat(first|refine blk_drewN ?_ _|refine blk_drew ?_|refine blk_alloc ?_ _));refine blk_put (cs:=#[.int .i64 0,.slice none 0 0]) ?_ 1 _ rfl;(with_reducible repeat(first|refine blk_drewN ?_ _|refine blk_drew ?_|refine blk_alloc ?_ _));refine blk_put (cs:=#[.int .i64 0,.slice none 0 0]) ?_ 0 _ rfl;(with_reducible repeat(first|refine blk_drewN ?_ _|refine blk_drew ?_|refine blk_alloc ?_ _));exact BK254.1) Try.underlying28 rfl (by kernel_rfl)) rfl ?_;exact⟨_,by first|rfl|(simp [errW_none,errW_some] <;> rfl)|(simp [*,errW_none,errW_some] <;> rfl),by first|exact Kd.R_nil _ _ _ _ _|exact Kd.N_nil _ _ _ _ _|exact Kd.V_nil _ _ _ _ _|exact Kd.Q_nil _ _ _ _ _|exact Kd.S_nil _ _ _ _ _,by repeat(first|(with_reducible first|exact HB.1|apply below_alloc|apply pw_below_drewN|apply below_drew1|refine below_set ?_ GE253.1|refine below_set ?_ GE254.1)|exact HB.1)⟩
      · replace c18:=Bool.eq_false_iff.mpr c18
        subst c18;have H1:(if 0≤(t255.length:Int) then (if ((t255.length:Int):Int).toNat≤35184372088832 then (impl_CycloAtResidues.l0 kj4 a0 l2 t255 (List.replicate ((t255.length:Int):Int).toNat 0) (t255.length:Int) 0 a1) else (none)) else (none))=some (r1,r2,r3):=by rw [if_neg (show ¬(false=true) by decide)] at H;exact H
        clear H;have H:=H1;clear H1
        by_cases c21:0≤(t255.length:Int)
        · rw [if_pos c21] at H
          have c21b0:=eq_true c21;have c21b1:decide (0≤(t255.length:Int))=true:=decide_eq_true c21;clear c21
          by_cases c22:((t255.length:Int):Int).toNat≤35184372088832
          · rw [if_pos c22] at H
            have c22b0:=eq_true c22;have c22b1:decide (((t255.length:Int):Int).toNat≤35184372088832)=true:=decide_eq_true c22;clear c22;obtain⟨y260,hy260⟩:∃y_:List Int,y_=(List.replicate ((t255.length:Int):Int).toNat 0):=⟨_,rfl⟩
            replace H:(impl_CycloAtResidues.l0 kj4 a0 l2 t255 y260 (t255.length:Int) 0 a1)=some (r1,r2,r3):=by first|(rw [hy260];with_reducible exact H)|(have H2_:=(Option.bind_some _ _).symm.trans H;rw [hy260];with_reducible exact H2_)|(have H2_:=(Option.bind_some _ _).symm.trans H;with_reducible exact H2_)|with_reducible exact H|(rw [hy260];exact H)|exact H
            have Ny260:=qAm hy260;clear hy260;have H':=qAm H;clear H;obtain⟨Ao23,co23,eo23⟩:=Kd.R_slice HO_8.1;subst eo23;go_wp2_with (first|((with_reducible refine gate_dst (N:=46) rfl ?_);(try(refine gate_guard (by rfl) ?_;dsimp only));refine Kd.R_make (Kd.int .i64) _ 2 rfl (N:=46) rfl 22 _ _ rfl (t255.length:Int) rfl rfl Try.underlying22 (.int .i64 0) 8 info2 rfl (by decide) (by omega) 0 (ok:=fun _=>True) (okp:=fun _=>True) rfl (fun _ hk=>hk) trivial (of_decide_eq_true qB51) (Nat.le_trans (Nat.mul_le_mul_right _ (of_decide_eq_true qB51:(t255.length:Int).toNat≤35184372088832)) (by omega)) (Below.refl _ _) (Nat.le_refl _) ?_;intro v261 w24 ho25 hb hg_ hnew_;clear hg_ hnew_;(first|rw [← Ny260.1] at ho25|(simp only [Int.reduceToNat] at ho25;rw [← Ny260.1] at ho25));have n0_:=qAm (Kd.R_elder' qB46 (Kd.R_base ho25) hb);have n1_:=qAm (Kd.R_lower (Kd.R_newB (Kd.R_new' ho25 (Kd.R_lt qB46)) (g:=gb253) (o:=.cells #[.int .i64 a1] 2 (0,0)) qB24) (below_size qB10));have n2_:=qAm (blk_below (g:=gb253) (o:=.cells #[.int .i64 a1] 2 (0,0)) qB24 hb);have n3_:=qAm (blk_below (g:=gb254) (o:=.cells #[.int .i64 0,.slice none 0 0] 28 (0,0)) qB25 hb);have n4_:=qAm (below_step qB10 hb);clear HO_8;clear BK253;clear BK254;clear HB;have HO_8:=n0_;have HO262:=n1_;have BK253:=n2_;have BK254:=n3_;have HB:=n4_;clear n0_ n1_ n2_ n3_ n4_;clear hb ho25));try simp only [Act.put,qSa,qSc,qSb]
            go_loopg [49] kj4 (fun kq v49 w'=>∃(x8_2:List Int) (x10_2:List Int) (x49_2:Int),v49=.int .i64 x49_2∧Aside0 (impl_CycloAtResidues.l0 kq a0 l2 x8_2 x10_2 (t255.length:Int) x49_2 a1=some (r1,r2,r3))∧Aside0 (kq≤kj4)∧Aside0 (Kd.R (Kd.int .i64) 2 w' w.heap.size (fun k_=>some k_≠(v261:Value).ownBlock∧k_≠gb253) (.slice Ao23 t255.length co23) x8_2)∧Aside0 (Kd.R (Kd.int .i64) 2 w' w.heap.size (fun k_=>some k_≠((.slice Ao23 t255.length co23):Value).ownBlock∧k_≠gb253) v261 x10_2)∧Aside0 (w'.heap[gb253]? =some (.cells #[.int .i64 a1] 2 (0,0)))∧Aside0 (w'.heap[gb254]? =some (.cells #[.int .i64 0,(.slice none 0 0)] 28 (0,0)))∧Aside0 (Below w.heap.size w w'))
            case atStart=>exact⟨(t255),(y260),(0),qB52,H',⟨Nat.le_refl _⟩,⟨by (with_reducible repeat(first|apply Kd.R_alloc|apply Kd.R_drewN|apply Kd.R_drew));exact Kd.R_mono HO_8.1 (fun _ hk=>⟨hk.2,hk.1⟩)⟩,⟨by (with_reducible repeat(first|apply Kd.R_alloc|apply Kd.R_drewN|apply Kd.R_drew));exact Kd.R_mono HO262.1 (fun _ hk=>⟨hk.1.2,hk.2⟩)⟩,⟨by (with_reducible repeat(first|refine blk_drewN ?_ _|refine blk_drew ?_|refine blk_alloc ?_ _));exact BK253.1⟩,⟨by (with_reducible repeat(first|refine blk_drewN ?_ _|refine blk_drew ?_|refine blk_alloc ?_ _));exact BK254.1⟩,⟨by repeat(first|(with_reducible first|exact HB.1|apply below_alloc|apply pw_below_drewN|apply below_drew1|refine below_set ?_ GE253.1|refine below_set ?_ GE254.1)|exact HB.1)⟩⟩
            case round=>
              clear H';try clear c1
              try clear c2
              try clear p2
              try clear c3
              try clear c6
              try clear c8
              try clear c11
              try clear c12
              try clear c12b0
              try clear c12b1
              try clear c12b2
              try clear c15
              try clear c18
              try clear c19
              try clear c21
              try clear c21b0
              try clear c21b1
              try clear c22
              try clear c22b0
              try clear c22b1
              try clear hcz16_0
              try clear hcz20_0
              try clear hcz20_1
              try clear hcz9_0
              try clear hfz16_0
              try clear hfz20_0
              try clear hfz20_1
              try clear hfz9_0
              try clear p2
              obtain⟨x8_2,x10_2,x49_2,rfl,HA,HK2,HO_8,HO_10,BK253,BK254,HB⟩:=hrel;have hl8_2:=(Kd.R_reads' HO_8.1).1;rw [hl8_2] at HO_8
              (try simp only [hl8_2])
              (try simp only [hl8_2] at BK253)
              (try simp only [hl8_2] at BK254)
              (try simp only [hl8_2] at HO_10)
              cases gk with
              |zero=>exact absurd HA.1 (by simp [impl_CycloAtResidues.l0])
              |succ k2=>
                have H:=HA.1;clear HA;simp only [impl_CycloAtResidues.l0] at H
                by_cases c26:x49_2<(t255.length:Int)
                · rw [if_pos c26] at H
                  have c26b0:decide (x49_2<(t255.length:Int))=true:=decide_eq_true c26;clear c26
                  by_cases c27:0≤x49_2
                  · rw [if_pos c27] at H
                    have c27b0:decide (0≤x49_2)=true:=decide_eq_true c27;clear c27
                    by_cases c28:x49_2<(x8_2.length:Int)
                    · rw [if_pos c28] at H
                      have c28b0:decide (x49_2<(x8_2.length:Int))=true:=decide_eq_true c28;clear c28;obtain⟨y264,hy264⟩:∃y_:List Int,y_=(([1]:List Int)):=⟨_,rfl⟩
                      replace H:(impl_CycloAtResidues.l1 k2 a0 l2 x8_2 x10_2 x49_2 (rd x8_2 x49_2) y264 1 (t255.length:Int) x49_2 (x8_2.length:Int) 0 a1)=some (r1,r2,r3):=by first|(rw [hy264];with_reducible exact H)|(have H2_:=(Option.bind_some _ _).symm.trans H;rw [hy264];with_reducible exact H2_)|(have H2_:=(Option.bind_some _ _).symm.trans H;with_reducible exact H2_)|with_reducible exact H|(rw [hy264];exact H)|exact H
                      have Ny264:=qAm hy264;clear hy264;have H':=qAm H;clear H;have p263:0≤(x49_2:Int):=of_decide_eq_true qB51;have q263:x49_2<(x8_2.length:Int):=of_decide_eq_true qB51;obtain⟨ad263,e263,hx263_0⟩:=Kd.at_int (Kd.R_reads' HO_8.1).2.2 x49_2 p263 q263;cases e263
                      replace p263:=eq_true p263;replace q263:=eq_true q263;go_wp2_with (first|((with_reducible refine gate_dst (N:=54) rfl ?_);(try(refine gate_guard (by rfl) ?_;dsimp only));refine Kd.R_lit (Kd.int .i64) _ 2 ?hg (N:=54) ?hd (xs:=([1]:List Int)) (inner:=[.int .i64 1]) (ok:=fun _=>True) (okp:=fun _=>True) ?hr ?hp (fun _ hk=>hk) trivial (Below.refl _ _) (Nat.le_refl _) (by simp) ?_;(case hd=>rfl);(case hg=>rfl);(case hr=>first|(go_simp;done)|(go_simp;rfl));(case hp=>exact(Reps.one (show Kd.M (Kd.int .i64) _ _ _ 1 [.int .i64 1] from rfl) (Reps.none _ _)));intro v265 w29 ho30 hb hg_ hnew_;clear hg_ hnew_;(first|rw [← Ny264.1] at ho30|(simp only [Int.reduceToNat] at ho30;rw [← Ny264.1] at ho30));have n0_:=qAm (Kd.R_elder' qB46 (Kd.R_base ho30) hb);have n1_:=qAm (Kd.R_elder' qB38 (Kd.R_base ho30) hb);have n2_:=qAm (Kd.R_lower (Kd.R_newB (Kd.R_new' (Kd.R_new' ho30 (Kd.R_lt qB46)) (Kd.R_lt qB38)) (g:=gb253) (o:=.cells #[.int .i64 a1] 2 (0,0)) qB24) (below_size qB10));have n3_:=qAm (blk_below (g:=gb253) (o:=.cells #[.int .i64 a1] 2 (0,0)) qB24 hb);have n4_:=qAm (blk_below (g:=gb254) (o:=.cells #[.int .i64 0,.slice none 0 0] 28 (0,0)) qB25 hb);have n5_:=qAm (below_step qB10 hb);clear HO_8;clear HO_10;clear BK253;clear BK254;clear HB;have HO_8:=n0_;have HO_10:=n1_;have HO266:=n2_;have BK253:=n3_;have BK254:=n4_;have HB:=n5_;clear n0_ n1_ n2_ n3_ n4_ n5_;clear hb ho30));try simp only [Act.put,qSa,qSc,qSb]
                      go_loopg [13,14,57] k2 (fun kq v13 v14 v57 w'=>∃(x8_3:List Int) (x10_3:List Int) (x13_3:List Int) (x14_3:Int) (x57_3:Int),v14=.int .i64 x14_3∧v57=.int .i64 x57_3∧Aside0 (impl_CycloAtResidues.l1 kq a0 l2 x8_3 x10_3 x49_2 (rd x8_2 x49_2) x13_3 x14_3 (t255.length:Int) x49_2 (x8_2.length:Int) x57_3 a1=some (r1,r2,r3))∧Aside0 (kq≤k2)∧Aside0 (Kd.R (Kd.int .i64) 2 w' w.heap.size (fun k_=>some k_≠(v261:Value).ownBlock∧some k_≠(v13:Value).ownBlock∧k_≠gb253) (.slice (some ad263) x8_2.length co23) x8_3)∧Aside0 (Kd.R (Kd.int .i64) 2 w' w.heap.size (fun k_=>some k_≠((.slice (some ad263) x8_2.length co23):Value).ownBlock∧some k_≠(v13:Value).ownBlock∧k_≠gb253) v261 x10_3)∧Aside0 (Kd.R (Kd.int .i64) 2 w' w.heap.size (fun k_=>some k_≠((.slice (some ad263) x8_2.length co23):Value).ownBlock∧some k_≠(v261:Value).ownBlock∧k_≠gb253) v13 x13_3)∧Aside0 (w'.heap[gb253]? =some (.cells #[.int .i64 a1] 2 (0,0)))∧Aside0 (w'.heap[gb254]? =some (.cells #[.int .i64 0,(.slice none 0 0)] 28 (0,0)))∧Aside0 (Below w.heap.size w w'))
                      case atStart=>exact⟨(x8_2),(x10_2),(y264),(1),(0),qB52,qB52,H',⟨Nat.le_refl _⟩,⟨by (try simp only [hl8_2]);(with_reducible repeat(first|apply Kd.R_alloc|apply Kd.R_drewN|apply Kd.R_drew));exact Kd.R_mono HO_8.1 (fun _ hk=>⟨hk.1.1,⟨hk.2,hk.1.2⟩⟩)⟩,⟨by (try simp only [hl8_2]);(with_reducible repeat(first|apply Kd.R_alloc|apply Kd.R_drewN|apply Kd.R_drew));exact Kd.R_mono HO_10.1 (fun _ hk=>⟨hk.1.1,⟨hk.2,hk.1.2⟩⟩)⟩,⟨by (try simp only [hl8_2]);(with_reducible repeat(first|apply Kd.R_alloc|apply Kd.R_drewN|apply Kd.R_drew));exact Kd.R_mono HO266.1 (fun _ hk=>⟨hk.1.1.2,⟨hk.1.2,hk.2⟩⟩)⟩,⟨by (try simp only [hl8_2]);(with_reducible repeat(first|refine blk_drewN ?_ _|refine blk_drew ?_|refine blk_alloc ?_ _));exact BK253.1⟩,⟨by (try simp only [hl8_2]);(with_reducible repeat(first|refine blk_drewN ?_ _|refine blk_drew ?_|refine blk_alloc ?_ _));exact BK254.1⟩,⟨by repeat(first|(with_reducible first|exact HB.1|apply below_alloc|apply pw_below_drewN|apply below_drew1|refine below_set ?_ GE253.1|refine below_set ?_ GE254.1)|exact HB.1)⟩⟩
                      case round=>
                        clear H';try clear c1
                        try clear c2
                        try clear p2
                        try clear q2
                        try clear hx2
                        try clear c3
                        try clear c6
                        try clear c8
                        try clear c11
                        try clear c12
                        try clear c12b0
                        try clear c12b1
                        try clear c12b2
                        try clear c15
                        try clear c18
                        try clear c19
                        try clear c21
                        try clear c21b0
                        try clear c21b1
                        try clear c22
                        try clear c22b0
                        try clear c22b1
                        try clear c26
                        try clear c26b0
                        try clear p26
                        try clear q26
                        try clear hx26
                        try clear c27
                        try clear c27b0
                        try clear c28
                        try clear c28b0
                        try clear hcz16_0
                        try clear hcz20_0
                        try clear hcz20_1
                        try clear hcz9_0
                        try clear hfz16_0
                        try clear hfz20_0
                        try clear hfz20_1
                        try clear hfz9_0
                        try clear hx263_0
                        try clear p2
                        try clear p263
                        try clear q263
                        obtain⟨x8_3,x10_3,x13_3,x14_3,x57_3,rfl,rfl,HA,HK3,HO_8,HO_10,HO_13,BK253,BK254,HB⟩:=hrel;have hl8_3:=(Kd.R_reads' HO_8.1).1;rw [hl8_3] at HO_8
                        (try simp only [hl8_3])
                        (try simp only [hl8_3] at BK253)
                        (try simp only [hl8_3] at BK254)
                        (try simp only [hl8_3] at HO_10)
                        (try simp only [hl8_3] at HO_13)
                        cases gk with
                        |zero=>exact absurd HA.1 (by simp [impl_CycloAtResidues.l1])
                        |succ k3=>
                          have H:=HA.1;clear HA;simp only [impl_CycloAtResidues.l1] at H
                          by_cases c31:x57_3<(x8_2.length:Int)
                          · rw [if_pos c31] at H
                            have c31b0:decide (x57_3<(x8_2.length:Int))=true:=decide_eq_true c31;clear c31
                            by_cases c32:0≤x57_3
                            · rw [if_pos c32] at H
                              have c32b0:decide (0≤x57_3)=true:=decide_eq_true c32;clear c32
                              by_cases c33:x57_3<(x8_3.length:Int)
                              · rw [if_pos c33] at H
                                have c33b0:decide (x57_3<(x8_3.length:Int))=true:=decide_eq_true c33;clear c33
                                by_cases c34:x57_3=x49_2
                                · rw [if_pos c34] at H
                                  have c34b0:(x57_3==x49_2)=true:=beq_iff_eq.mpr c34;have c34b1:(x57_3 !=x49_2)=false:=bne_eq_false_iff_eq.mpr c34;clear c34;have H':=qAm H;clear H;have p267:0≤(x57_3:Int):=of_decide_eq_true qB51;have q267:x57_3<(x8_3.length:Int):=of_decide_eq_true qB51;obtain⟨ad267,e267,hx267_0⟩:=Kd.at_int (Kd.R_reads' HO_8.1).2.2 x57_3 p267 q267;obtain rfl:ad263=ad267:=(by injection e267)
                                  replace p267:=eq_true p267;replace q267:=eq_true q267;go_wp2
                                  (try simp only [← hl8_3])
                                  (first|go_roundg k3|((try simp only [add_plain] at *);go_roundg k3))
                                  case measure=>have:=HJ4.1;have:=HK2.1;have:=HK3.1;omega
                                  case rel=>exact⟨(x8_3),(x10_3),(x13_3),(x14_3),(wrap64 (x57_3+1)),qB52,qB52,H',⟨by have:=HJ4.1;have:=HK2.1;have:=HK3.1;omega⟩,⟨by (try simp only [hl8_2]);(try simp only [hl8_3]);(with_reducible repeat(first|apply Kd.R_alloc|apply Kd.R_drewN|apply Kd.R_drew));exact HO_8.1⟩,⟨by (try simp only [hl8_2]);(try simp only [hl8_3]);(with_reducible repeat(first|apply Kd.R_alloc|apply Kd.R_drewN|apply Kd.R_drew));exact HO_10.1⟩,⟨by (try simp only [hl8_2]);(try simp only [hl8_3]);(with_reducible repeat(first|apply Kd.R_alloc|apply Kd.R_drewN|apply Kd.R_drew));exact HO_13.1⟩,⟨by (try simp only [hl8_2]);(try simp only [hl8_3]);(with_reducible repeat(first|refine blk_drewN ?_ _|refine blk_drew ?_|refine blk_alloc ?_ _));exact BK253.1⟩,⟨by (try simp only [hl8_2]);(try simp only [hl8_3]);(with_reducible repeat(first|refine blk_drewN ?_ _|refine blk_drew ?_|refine blk_alloc ?_ _));exact BK254.1⟩,⟨by repeat(first|(with_reducible first|exact HB.1|apply below_alloc|apply pw_below_drewN|apply below_drew1|refine below_set ?_ GE253.1|refine below_set ?_ GE254.1)|exact HB.1)⟩⟩
                                · rw [if_neg c34] at H
                                  have c34b0:(x57_3==x49_2)=false:=beq_eq_false_iff_ne.mpr c34;have c34b1:(x57_3 !=x49_2)=true:=bne_iff_ne.mpr c34;obtain⟨ji35,hji35⟩:∃j_:Int,(wrap64 ((x13_3.length:Int)+1))=j_:=⟨_,rfl⟩
                                  replace H:(if 0≤(ji35) then (if (ji35:Int).toNat≤35184372088832 then (impl_CycloAtResidues.l2 k3 a0 l2 x8_3 x10_3 x49_2 (rd x8_2 x49_2) x13_3 x14_3 (rd x8_3 x57_3) (List.replicate (ji35:Int).toNat 0) (t255.length:Int) x49_2 (x8_2.length:Int) x57_3 (x13_3.length:Int) 0 a1) else (none)) else (none))=some (r1,r2,r3):=by first|(rw [hji35] at H;exact H)|(simp only [hji35] at H ⊢;exact H)
                                  have hji35w:(IntKind.i64.wrap ((x13_3.length:Int)+1))=ji35:=(i64_w _).trans hji35
                                  by_cases c36:0≤(ji35)
                                  · rw [if_pos c36] at H
                                    have c36b0:=eq_true c36;have c36b1:decide (0≤(ji35))=true:=decide_eq_true c36;clear c36
                                    by_cases c37:(ji35:Int).toNat≤35184372088832
                                    · rw [if_pos c37] at H
                                      have c37b0:=eq_true c37;have c37b1:decide ((ji35:Int).toNat≤35184372088832)=true:=decide_eq_true c37;clear c37;obtain⟨y268,hy268⟩:∃y_:List Int,y_=(List.replicate (ji35:Int).toNat 0):=⟨_,rfl⟩
                                      replace H:(impl_CycloAtResidues.l2 k3 a0 l2 x8_3 x10_3 x49_2 (rd x8_2 x49_2) x13_3 x14_3 (rd x8_3 x57_3) y268 (t255.length:Int) x49_2 (x8_2.length:Int) x57_3 (x13_3.length:Int) 0 a1)=some (r1,r2,r3):=by first|(rw [hy268];with_reducible exact H)|(have H2_:=(Option.bind_some _ _).symm.trans H;rw [hy268];with_reducible exact H2_)|(have H2_:=(Option.bind_some _ _).symm.trans H;with_reducible exact H2_)|with_reducible exact H|(rw [hy268];exact H)|exact H
                                      have Ny268:=qAm hy268;clear hy268;have H':=qAm H;clear H;have p267:0≤(x57_3:Int):=of_decide_eq_true qB51;have q267:x57_3<(x8_3.length:Int):=of_decide_eq_true qB51;obtain⟨ad267,e267,hx267_0⟩:=Kd.at_int (Kd.R_reads' HO_8.1).2.2 x57_3 p267 q267;obtain rfl:ad263=ad267:=(by injection e267)
                                      replace p267:=eq_true p267;replace q267:=eq_true q267;obtain⟨Ao38,co38,eo38⟩:=Kd.R_slice HO_13.1;subst eo38;go_wp2_with (first|((with_reducible refine gate_dst (N:=68) rfl ?_);(try(refine gate_guard (by rfl) ?_;dsimp only));refine Kd.R_make (Kd.int .i64) _ 2 rfl (N:=68) rfl 22 _ _ rfl ji35 rfl rfl Try.underlying22 (.int .i64 0) 8 info2 rfl (by decide) (by omega) 0 (ok:=fun _=>True) (okp:=fun _=>True) rfl (fun _ hk=>hk) trivial (of_decide_eq_true qB51) (Nat.le_trans (Nat.mul_le_mul_right _ (of_decide_eq_true qB51:ji35.toNat≤35184372088832)) (by omega)) (Below.refl _ _) (Nat.le_refl _) ?_;intro v269 w39 ho40 hb hg_ hnew_;clear hg_ hnew_;(first|rw [← Ny268.1] at ho40|(simp only [Int.reduceToNat] at ho40;rw [← Ny268.1] at ho40));have n0_:=qAm (Kd.R_elder' qB46 (Kd.R_base ho40) hb);have n1_:=qAm (Kd.R_elder' qB38 (Kd.R_base ho40) hb);have n2_:=qAm (Kd.R_elder' qB34 (Kd.R_base ho40) hb);have n3_:=qAm (Kd.R_lower (Kd.R_newB (Kd.R_new' (Kd.R_new' (Kd.R_new' ho40 (Kd.R_lt qB46)) (Kd.R_lt qB38)) (Kd.R_lt qB34)) (g:=gb253) (o:=.cells #[.int .i64 a1] 2 (0,0)) qB24) (below_size qB10));have n4_:=qAm (blk_below (g:=gb253) (o:=.cells #[.int .i64 a1] 2 (0,0)) qB24 hb);have n5_:=qAm (blk_below (g:=gb254) (o:=.cells #[.int .i64 0,.slice none 0 0] 28 (0,0)) qB25 hb);have n6_:=qAm (below_step qB10 hb);clear HO_8;clear HO_10;clear HO_13;clear BK253;clear BK254;clear HB;have HO_8:=n0_;have HO_10:=n1_;have HO_13:=n2_;have HO270:=n3_;have BK253:=n4_;have BK254:=n5_;have HB:=n6_;clear n0_ n1_ n2_ n3_ n4_ n5_ n6_;clear hb ho40));try simp only [Act.put,qSa,qSc,qSb]
                                      go_loopg [71] k3 (fun kq v71 w'=>∃(x17_4:List Int) (x71_4:Int),v71=.int .i64 x71_4∧Aside0 (impl_CycloAtResidues.l2 kq a0 l2 x8_3 x10_3 x49_2 (rd x8_2 x49_2) x13_3 x14_3 (rd x8_3 x57_3) x17_4 (t255.length:Int) x49_2 (x8_2.length:Int) x57_3 (x13_3.length:Int) x71_4 a1=some (r1,r2,r3))∧Aside0 (kq≤k3)∧Aside0 (Kd.R (Kd.int .i64) 2 w' w.heap.size (fun k_=>some k_≠(v261:Value).ownBlock∧some k_≠((.slice Ao38 x13_3.length co38):Value).ownBlock∧some k_≠(v269:Value).ownBlock∧k_≠gb253) (.slice (some ad263) x8_3.length co23) x8_3)∧Aside0 (Kd.R (Kd.int .i64) 2 w' w.heap.size (fun k_=>some k_≠((.slice (some ad263) x8_3.length co23):Value).ownBlock∧some k_≠((.slice Ao38 x13_3.length co38):Value).ownBlock∧some k_≠(v269:Value).ownBlock∧k_≠gb253) v261 x10_3)∧Aside0 (Kd.R (Kd.int .i64) 2 w' w.heap.size (fun k_=>some k_≠((.slice (some ad263) x8_3.length co23):Value).ownBlock∧some k_≠(v261:Value).ownBlock∧some k_≠(v269:Value).ownBlock∧k_≠gb253) (.slice Ao38 x13_3.length co38) x13_3)∧Aside0 (Kd.R (Kd.int .i64) 2 w' w.heap.size (fun k_=>some k_≠((.slice (some ad263) x8_3.length co23):Value).ownBlock∧some k_≠(v261:Value).ownBlock∧some k_≠((.slice Ao38 x13_3.length co38):Value).ownBlock∧k_≠gb253) v269 x17_4)∧Aside0 (w'.heap[gb253]? =some (.cells #[.int .i64 a1] 2 (0,0)))∧Aside0 (w'.heap[gb254]? =some (.cells #[.int .i64 0,(.slice none 0 0)] 28 (0,0)))∧Aside0 (Below w.heap.size w w'))
                                      case atStart=>exact⟨(y268),(0),qB52,H',⟨Nat.le_refl _⟩,⟨by (try simp only [hl8_2]);(try simp only [hl8_3]);(with_reducible repeat(first|apply Kd.R_alloc|apply Kd.R_drewN|apply Kd.R_drew));exact Kd.R_mono HO_8.1 (fun _ hk=>⟨hk.1.1,⟨hk.1.2.1,⟨hk.2,hk.1.2.2⟩⟩⟩)⟩,⟨by (try simp only [hl8_2]);(try simp only [hl8_3]);(with_reducible repeat(first|apply Kd.R_alloc|apply Kd.R_drewN|apply Kd.R_drew));exact Kd.R_mono HO_10.1 (fun _ hk=>⟨hk.1.1,⟨hk.1.2.1,⟨hk.2,hk.1.2.2⟩⟩⟩)⟩,⟨by (try simp only [hl8_2]);(try simp only [hl8_3]);(with_reducible repeat(first|apply Kd.R_alloc|apply Kd.R_drewN|apply Kd.R_drew));exact Kd.R_mono HO_13.1 (fun _ hk=>⟨hk.1.1,⟨hk.1.2.1,⟨hk.2,hk.1.2.2⟩⟩⟩)⟩,⟨by (try simp only [hl8_2]);(try simp only [hl8_3]);(with_reducible repeat(first|apply Kd.R_alloc|apply Kd.R_drewN|apply Kd.R_drew));exact Kd.R_mono HO270.1 (fun _ hk=>⟨hk.1.1.1.2,⟨hk.1.1.2,⟨hk.1.2,hk.2⟩⟩⟩)⟩,⟨by (try simp only [hl8_2]);(try simp only [hl8_3]);(with_reducible repeat(first|refine blk_drewN ?_ _|refine blk_drew ?_|refine blk_alloc ?_ _));exact BK253.1⟩,⟨by (try simp only [hl8_2]);(try simp only [hl8_3]);(with_reducible repeat(first|refine blk_drewN ?_ _|refine blk_drew ?_|refine blk_alloc ?_ _));exact BK254.1⟩,⟨by repeat(first|(with_reducible first|exact HB.1|apply below_alloc|apply pw_below_drewN|apply below_drew1|refine below_set ?_ GE253.1|refine below_set ?_ GE254.1)|exact HB.1)⟩⟩
                                      case round=>
                                        clear H';try clear c1
                                        try clear c2
                                        try clear p2
                                        try clear q2
                                        try clear hx2
                                        try clear c3
                                        try clear c6
                                        try clear p6
                                        try clear c8
                                        try clear c11
                                        try clear c12
                                        try clear c12b0
                                        try clear c12b1
                                        try clear c12b2
                                        try clear c15
                                        try clear c18
                                        try clear c19
                                        try clear c21
                                        try clear c21b0
                                        try clear c21b1
                                        try clear c22
                                        try clear c22b0
                                        try clear c22b1
                                        try clear c26
                                        try clear c26b0
                                        try clear p26
                                        try clear q26
                                        try clear hx26
                                        try clear c27
                                        try clear c27b0
                                        try clear c28
                                        try clear c28b0
                                        try clear c31
                                        try clear c31b0
                                        try clear c32
                                        try clear c32b0
                                        try clear c33
                                        try clear c33b0
                                        try clear c34
                                        try clear c34b0
                                        try clear c34b1
                                        try clear c36
                                        try clear c36b0
                                        try clear c36b1
                                        try clear c37
                                        try clear c37b0
                                        try clear c37b1
                                        try clear hcz16_0
                                        try clear hcz20_0
                                        try clear hcz20_1
                                        try clear hcz9_0
                                        try clear hfz16_0
                                        try clear hfz20_0
                                        try clear hfz20_1
                                        try clear hfz9_0
                                        try clear hx263_0
                                        try clear hx267_0
                                        try clear p2
                                        try clear p26
                                        try clear p263
                                        try clear p267
                                        try clear q2
                                        try clear q26
                                        try clear q263
                                        try clear q267
                                        obtain⟨x17_4,x71_4,rfl,HA,HK4,HO_8,HO_10,HO_13,HO_17,BK253,BK254,HB⟩:=hrel;cases gk with
                                        |zero=>exact absurd HA.1 (by simp [impl_CycloAtResidues.l2])
                                        |succ k4=>
                                          have H:=HA.1;clear HA;simp only [impl_CycloAtResidues.l2] at H
                                          by_cases c41:x71_4<(x13_3.length:Int)
                                          · rw [if_pos c41] at H
                                            have c41b0:decide (x71_4<(x13_3.length:Int))=true:=decide_eq_true c41;clear c41
                                            by_cases c42:0≤x71_4
                                            · rw [if_pos c42] at H
                                              have c42b0:decide (0≤x71_4)=true:=decide_eq_true c42;clear c42
                                              by_cases c43:x71_4<(x13_3.length:Int)
                                              · rw [if_pos c43] at H
                                                have c43b0:decide (x71_4<(x13_3.length:Int))=true:=decide_eq_true c43;clear c43;obtain⟨ji44,hji44⟩:∃j_:Int,(wrap64 (x71_4+1))=j_:=⟨_,rfl⟩
                                                replace H:(if 0≤(ji44) then (if (ji44)<(x17_4.length:Int) then ((impl_around.f (wrap64 ((rd x17_4 (ji44))+(rd x13_3 x71_4))) a1).bind fun t273=>((some (x17_4.set ((ji44):Int).toNat t273:List Int)).bind fun y274=>(if x71_4<(x17_4.length:Int) then ((impl_around.f (wrap64 ((rd y274 x71_4) - (wrap64 ((rd x13_3 x71_4)*(rd x8_3 x57_3))))) a1).bind fun t276=>(impl_CycloAtResidues.l2 k4 a0 l2 x8_3 x10_3 x49_2 (rd x8_2 x49_2) x13_3 x14_3 (rd x8_3 x57_3) (y274.set (x71_4:Int).toNat t276) (t255.length:Int) x49_2 (x8_2.length:Int) x57_3 (x13_3.length:Int) ji44 a1)) else (none)))) else (none)) else (none))=some (r1,r2,r3):=by first|(rw [hji44] at H;exact H)|(simp only [hji44] at H ⊢;exact H)
                                                have hji44w:(IntKind.i64.wrap (x71_4+1))=ji44:=(i64_w _).trans hji44
                                                by_cases c45:0≤(ji44)
                                                · rw [if_pos c45] at H
                                                  have c45b0:decide (0≤(ji44))=true:=decide_eq_true c45;clear c45
                                                  by_cases c46:(ji44)<(x17_4.length:Int)
                                                  · rw [if_pos c46] at H
                                                    have c46b0:decide ((ji44)<(x17_4.length:Int))=true:=decide_eq_true c46;clear c46;replace H:=qOb H;obtain⟨t273,A470,H⟩:=H;replace H:((some (x17_4.set ((ji44):Int).toNat t273:List Int)).bind fun y274=>(if x71_4<(x17_4.length:Int) then ((impl_around.f (wrap64 ((rd y274 x71_4) - (wrap64 ((rd x13_3 x71_4)*(rd x8_3 x57_3))))) a1).bind fun t276=>(impl_CycloAtResidues.l2 k4 a0 l2 x8_3 x10_3 x49_2 (rd x8_2 x49_2) x13_3 x14_3 (rd x8_3 x57_3) (y274.set (x71_4:Int).toNat t276) (t255.length:Int) x49_2 (x8_2.length:Int) x57_3 (x13_3.length:Int) ji44 a1)) else (none)))=some (r1,r2,r3):=H;have A47:=qAm A470;clear A470;obtain⟨y274,hy274⟩:∃y_:List Int,y_=(x17_4.set ((ji44):Int).toNat t273):=⟨_,rfl⟩
                                                    replace H:(if x71_4<(x17_4.length:Int) then ((impl_around.f (wrap64 ((rd y274 x71_4) - (wrap64 ((rd x13_3 x71_4)*(rd x8_3 x57_3))))) a1).bind fun t276=>(impl_CycloAtResidues.l2 k4 a0 l2 x8_3 x10_3 x49_2 (rd x8_2 x49_2) x13_3 x14_3 (rd x8_3 x57_3) (y274.set (x71_4:Int).toNat t276) (t255.length:Int) x49_2 (x8_2.length:Int) x57_3 (x13_3.length:Int) ji44 a1)) else (none))=some (r1,r2,r3):=by first|(rw [hy274];with_reducible exact H)|(have H2_:=(Option.bind_some _ _).symm.trans H;rw [hy274];with_reducible exact H2_)|(have H2_:=(Option.bind_some _ _).symm.trans H;with_reducible exact H2_)|with_reducible exact H|(rw [hy274];exact H)|exact H
                                                    have Ny274:=qAm hy274;clear hy274
                                                    by_cases c49:x71_4<(x17_4.length:Int)
                                                    · rw [if_pos c49] at H
                                                      have c49b0:decide (x71_4<(x17_4.length:Int))=true:=decide_eq_true c49;clear c49;replace H:=qOb H;obtain⟨t276,A500,H⟩:=H;replace H:(impl_CycloAtResidues.l2 k4 a0 l2 x8_3 x10_3 x49_2 (rd x8_2 x49_2) x13_3 x14_3 (rd x8_3 x57_3) (y274.set (x71_4:Int).toNat t276) (t255.length:Int) x49_2 (x8_2.length:Int) x57_3 (x13_3.length:Int) ji44 a1)=some (r1,r2,r3):=H;have A50:=qAm A500;clear A500;obtain⟨y277,hy277⟩:∃y_:List Int,y_=(y274.set (x71_4:Int).toNat t276):=⟨_,rfl⟩
                                                      replace H:(impl_CycloAtResidues.l2 k4 a0 l2 x8_3 x10_3 x49_2 (rd x8_2 x49_2) x13_3 x14_3 (rd x8_3 x57_3) y277 (t255.length:Int) x49_2 (x8_2.length:Int) x57_3 (x13_3.length:Int) ji44 a1)=some (r1,r2,r3):=by first|(rw [hy277];with_reducible exact H)|(have H2_:=(Option.bind_some _ _).symm.trans H;rw [hy277];with_reducible exact H2_)|(have H2_:=(Option.bind_some _ _).symm.trans H;with_reducible exact H2_)|with_reducible exact H|(rw [hy277];exact H)|exact H
                                                      have Ny277:=qAm hy277;clear hy277;have H':=qAm H;clear H;have p271:0≤(x71_4:Int):=of_decide_eq_true qB51;have q271:x71_4<(x13_3.length:Int):=of_decide_eq_true qB51;obtain⟨ad271,e271,hx271_0⟩:=Kd.at_int (Kd.R_reads' HO_13.1).2.2 x71_4 p271 q271;cases e271
                                                      replace p271:=eq_true p271;replace q271:=eq_true q271;try go_wp2
                                                      have n0_:=qAm (Kd.R_drew HO_8.1);have n1_:=qAm (Kd.R_drew HO_10.1);have n2_:=qAm (Kd.R_drew HO_13.1);have n3_:=qAm (Kd.R_drew HO_17.1);have n4_:=qAm (blk_drew BK253.1);have n5_:=qAm (blk_drew BK254.1);have n6_:=qAm (below_drew1 HB.1);clear HO_8 HO_10 HO_13 HO_17 BK253 BK254 HB;have HO_8:=n0_;have HO_10:=n1_;have HO_13:=n2_;have HO_17:=n3_;have BK253:=n4_;have BK254:=n5_;have HB:=n6_;clear n0_ n1_ n2_ n3_ n4_ n5_ n6_;obtain⟨Ao53,co53,eo53⟩:=Kd.R_slice HO_17.1
                                                      (first|subst eo53|(injection eo53 with f1_ f2_ f3_;have f4_:=f1_.symm;have f5_:=f3_.symm;clear f1_ f2_ f3_;subst f4_;subst f5_))
                                                      have p272:0≤((ji44):Int):=of_decide_eq_true qB51;have q272:(ji44)<(x17_4.length:Int):=of_decide_eq_true qB51;obtain⟨ad272,e272,hx272_0⟩:=Kd.at_int (Kd.R_reads' HO_17.1).2.2 (ji44) p272 q272;cases e272
                                                      replace p272:=eq_true p272;replace q272:=eq_true q272;refine start_ (n:=14) (S:=fun w'=>w'.cell? ⟨gb253,0,none⟩=some (.int .i64 a1)∧w'.cell? (ad272.add ((ji44)).toNat)=some (.int .i64 (rd x17_4 (ji44)))) (ds:=[13]) #[false,false,false,false,false,false,false,false,false,false,false,false,false,false] (by kernel_rfl) rfl rfl ⟨(blk_cell BK253.1 0).trans rfl,hx272_0⟩ (fun hHeld=>?_);refine with_tabW impl_CycloAtResidues.tab17 impl_CycloAtResidues.bits17 (fun HT_ HW_=>?_);generalize wr.drew=w52 at HO_8 HO_10 HO_13 HO_17 BK253 BK254 HB hx272_0 hHeld ⊢;refine pure_ (i:=0) (N:=some 76) (v:=?_) (a':=?_) #[true,false,false,false,false,false,false,false,false,false,false,false,false,false] rfl rfl (any_of HT_.1 (by kernel_rfl)) (fun _ _ _ h=>h) (Or.inl ⟨by rfl,?_⟩) ?_ ?_;rotate_left
                                                      · intro w'
                                                        go_simp;with_reducible rfl
                                                      rotate_left
                                                      · simp only [Act.put,qSa,qSb,qSc,i64_w,i32_w]
                                                        rfl
                                                      refine pure_ (i:=1) (N:=some 77) (v:=?_) (a':=?_) #[true,true,false,false,false,false,false,false,false,false,false,false,false,false] rfl rfl (any_of HT_.1 (by kernel_rfl)) (fun _ _ _ h=>h) (Or.inl ⟨by rfl,?_⟩) ?_ ?_;rotate_left
                                                      · intro w'
                                                        go_simp;with_reducible rfl
                                                      rotate_left
                                                      · simp only [Act.put,qSa,qSb,qSc,i64_w,i32_w]
                                                        rfl
                                                      refine pure_ (i:=2) (N:=some 78) (v:=?_) (a':=?_) #[true,true,true,false,false,false,false,false,false,false,false,false,false,false] rfl rfl (any_of HT_.1 (by kernel_rfl)) (fun _ _ _ h=>h) (Or.inl ⟨by rfl,?_⟩) ?_ ?_;rotate_left
                                                      · intro w'
                                                        go_simp;with_reducible rfl
                                                      rotate_left
                                                      · simp only [Act.put,qSa,qSb,qSc,i64_w,i32_w]
                                                        rfl
                                                      refine pure_ (i:=3) (N:=some 79) (v:=?_) (a':=?_) #[true,true,true,true,false,false,false,false,false,false,false,false,false,false] rfl rfl (any_of HT_.1 (by kernel_rfl)) (fun _ _ _ h=>h) (Or.inl ⟨by rfl,?_⟩) ?_ ?_;rotate_left
                                                      · intro w'
                                                        go_simp;with_reducible rfl
                                                      rotate_left
                                                      · simp only [Act.put,qSa,qSb,qSc,i64_w,i32_w]
                                                        rfl
                                                      refine pure_ (i:=4) (N:=some 80) (v:=?_) (a':=?_) #[true,true,true,true,true,false,false,false,false,false,false,false,false,false] rfl rfl (any_of HT_.1 (by kernel_rfl)) (fun _ _ _ h=>h) (Or.inl ⟨by rfl,?_⟩) ?_ ?_;rotate_left
                                                      · intro w'
                                                        go_simp;with_reducible rfl
                                                      rotate_left
                                                      · simp only [Act.put,qSa,qSb,qSc,i64_w,i32_w]
                                                        rfl
                                                      refine pure_ (i:=5) (N:=some 81) (v:=?_) (a':=?_) #[true,true,true,true,true,true,false,false,false,false,false,false,false,false] rfl rfl (any_of HT_.1 (by kernel_rfl)) (fun _ _ _ h=>h) (Or.inl ⟨by rfl,?_⟩) ?_ ?_;rotate_left
                                                      · intro w'
                                                        go_simp;with_reducible rfl
                                                      rotate_left
                                                      · simp only [Act.put,qSa,qSb,qSc,i64_w,i32_w]
                                                        rfl
                                                      refine pure_ (i:=6) (N:=some 82) (v:=?_) (a':=?_) #[true,true,true,true,true,true,true,false,false,false,false,false,false,false] rfl rfl (any_of HT_.1 (by kernel_rfl)) (fun _ _ _ h=>h) (Or.inl ⟨by rfl,?_⟩) ?_ ?_;rotate_left
                                                      · intro w'
                                                        go_simp;with_reducible rfl
                                                      rotate_left
                                                      · simp only [Act.put,qSa,qSb,qSc,i64_w,i32_w]
                                                        rfl
                                                      refine pure_ (i:=8) (N:=some 84) (v:=?_) (a':=?_) #[true,true,true,true,true,true,true,false,true,false,false,false,false,false] rfl rfl (any_of HT_.1 (by kernel_rfl)) (fun _ _ _ h=>h) (Or.inl ⟨by rfl,?_⟩) ?_ ?_;rotate_left
                                                      · intro w'
                                                        go_simp;with_reducible rfl
                                                      rotate_left
                                                      · simp only [Act.put,qSa,qSb,qSc,i64_w,i32_w]
                                                        rfl
                                                      refine take_ (i:=7) (N:=some 83) (v:=?_) (a':=?_) #[true,true,true,true,true,true,true,true,true,false,false,false,false,false] rfl rfl (take_ofW HT_.1 HW_.1 (by kernel_rfl)) (fun _ _ _ h=>h) (Or.inl ⟨by rfl,?_⟩) hHeld ?_ ?_;rotate_left
                                                      · rintro w' ⟨s0,s1⟩
                                                        go_simp;with_reducible rfl
                                                      rotate_left
                                                      · simp only [Act.put,qSa,qSb,qSc,i64_w,i32_w]
                                                        rfl
                                                      refine pure_ (i:=9) (N:=some 85) (v:=?_) (a':=?_) #[true,true,true,true,true,true,true,true,true,true,false,false,false,false] rfl rfl (any_of HT_.1 (by kernel_rfl)) (fun _ _ _ h=>h) (Or.inl ⟨by rfl,?_⟩) ?_ ?_;rotate_left
                                                      · intro w'
                                                        go_simp;with_reducible rfl
                                                      rotate_left
                                                      · simp only [Act.put,qSa,qSb,qSc,i64_w,i32_w]
                                                        rfl
                                                      refine take_ (i:=10) (N:=some 86) (v:=?_) (a':=?_) #[true,true,true,true,true,true,true,true,true,true,true,false,false,false] rfl rfl (take_ofW HT_.1 HW_.1 (by kernel_rfl)) (fun _ _ _ h=>h) (Or.inl ⟨by rfl,?_⟩) hHeld ?_ ?_;rotate_left
                                                      · rintro w' ⟨s0,s1⟩
                                                        go_simp;with_reducible rfl
                                                      rotate_left
                                                      · simp only [Act.put,qSa,qSb,qSc,i64_w,i32_w]
                                                        rfl
                                                      refine one_ (i:=11) (N:=some 87) #[true,true,true,true,true,true,true,true,true,true,true,true,false,false] rfl rfl (one_of HT_.1 (by kernel_rfl)) (by decide) (fun K hK=>?_);refine goes_ Try.func88 (by kernel_rfl) rfl #[.int .i64 (wrap64 ((rd x17_4 (ji44))+(rd x13_3 x71_4))),.int .i64 a1] (by rfl) rfl rfl (by (try simp only [List.map_toArray,List.map_cons,List.map_nil]);first|done|(simp only [hji44];rfl)|rfl|(simp only [List.length_drop,List.length_take];rfl)) ?_;with_reducible refine(impl_around.calls (wrap64 ((rd x17_4 (ji44))+(rd x13_3 x71_4))) a1 t273 _ A47.1).mono ?_
                                                      rintro e w' ⟨rfl,⟨nd,rfl⟩⟩;refine⟨_,rfl,?_⟩;have p48:0≤((ji44):Int):=of_decide_eq_true qB51;have q48:((ji44):Int)<((x17_4.length:Int):Int):=of_decide_eq_true qB51;obtain⟨go48,co48,eo48,gb48,gl48,cl48,HG48⟩:=Kd.R_form HO_17.1 (by omega)
                                                      (first|cases eo48|(injection eo48 with ea_ en_ ec_;(first|subst ea_|(injection ea_ with ea_;subst ea_));subst ec_;clear en_))
                                                      have GB48:=qAm gb48;have GG48:=qAm HG48;clear gb48 gl48 HG48
                                                      (first|simp only [add_plain] at hx272_0|skip)
                                                      obtain⟨hx48_0,hf48_0⟩:=Kd.R_celln 0 HO_17.1 ((ji44):Int) p48 q48;replace p48:=eq_true p48;replace q48:=eq_true q48;have HP54:=Kd.R_putn HO_17.1 ((ji44):Int) t273;rw [← Ny274.1] at HP54;have HQ54:=qAm HP54;clear HP54;refine hK.out _ _ ⟨(blk_cell BK253.1 0).trans rfl,hHeld.2⟩ (fun hHeld=>?_);clear hK K;refine norm_ (a':=?_) ?_ ?_;rotate_left
                                                      · show Act.put _ (some 87) _=_
                                                        simp only [Act.put,qSa,qSb,qSc,i64_w,i32_w];rfl
                                                      refine pure_ (i:=12) (N:=some 88) (v:=?_) (a':=?_) #[true,true,true,true,true,true,true,true,true,true,true,true,true,false] rfl rfl (any_of HT_.1 (by kernel_rfl)) (fun _ _ _ h=>h) (Or.inl ⟨by rfl,?_⟩) ?_ ?_;rotate_left
                                                      · intro w'
                                                        go_simp;with_reducible rfl
                                                      rotate_left
                                                      · simp only [Act.put,qSa,qSb,qSc,i64_w,i32_w]
                                                        rfl
                                                      refine last_ (i:=13) (N:=none) #[true,true,true,true,true,true,true,true,true,true,true,true,true,true] rfl rfl (one_of HT_.1 (by kernel_rfl)) (by decide) (fun K hK=>?_);refine skip_ (w1:=?_) (by rfl) rfl ?_ ?_;rotate_left
                                                      · go_simp
                                                        rfl
                                                      refine hK.out _ _ ?_;clear hK K;refine done_ (done_of HT_.1 (by kernel_rfl)) ?_;try go_wp2
                                                      have n0_:Aside0 (Kd.R (Kd.int .i64) 2 (w52.setCell ⟨go48,((ji44):Int).toNat,none⟩ (.int .i64 t273)) w.heap.size (fun k_=>some k_≠(v261:Value).ownBlock∧some k_≠(.slice (some ad271) x13_3.length co38:Value).ownBlock∧some k_≠(.slice (some ⟨go48,0,none⟩) x17_4.length co53:Value).ownBlock∧k_≠gb253) (.slice (some ad263) x8_3.length co23) x8_3):=⟨by (with_reducible repeat(first|apply Kd.R_alloc|apply Kd.R_drewN|apply Kd.R_drew));exact Kd.R_mono (Kd.R_far (p:=⟨go48,((ji44):Int).toNat,none⟩) (Kd.R_mono HO_8.1 (fun k_ hk=>(⟨hk,fun e_=>hk.2.2.1 (by rw [e_];rfl)⟩:_∧k_≠go48))) (fun _ hk=>hk.2) (.int .i64 t273)) (fun _ hk=>⟨hk.1.1,⟨hk.1.2.1,⟨hk.1.2.2.1,hk.1.2.2.2⟩⟩⟩)⟩
                                                      have n1_:Aside0 (Kd.R (Kd.int .i64) 2 (w52.setCell ⟨go48,((ji44):Int).toNat,none⟩ (.int .i64 t273)) w.heap.size (fun k_=>some k_≠(.slice (some ad263) x8_3.length co23:Value).ownBlock∧some k_≠(.slice (some ad271) x13_3.length co38:Value).ownBlock∧some k_≠(.slice (some ⟨go48,0,none⟩) x17_4.length co53:Value).ownBlock∧k_≠gb253) v261 x10_3):=⟨by (with_reducible repeat(first|apply Kd.R_alloc|apply Kd.R_drewN|apply Kd.R_drew));exact Kd.R_mono (Kd.R_far (p:=⟨go48,((ji44):Int).toNat,none⟩) (Kd.R_mono HO_10.1 (fun k_ hk=>(⟨hk,fun e_=>hk.2.2.1 (by rw [e_];rfl)⟩:_∧k_≠go48))) (fun _ hk=>hk.2) (.int .i64 t273)) (fun _ hk=>⟨hk.1.1,⟨hk.1.2.1,⟨hk.1.2.2.1,hk.1.2.2.2⟩⟩⟩)⟩
                                                      have n2_:Aside0 (Kd.R (Kd.int .i64) 2 (w52.setCell ⟨go48,((ji44):Int).toNat,none⟩ (.int .i64 t273)) w.heap.size (fun k_=>some k_≠(.slice (some ad263) x8_3.length co23:Value).ownBlock∧some k_≠(v261:Value).ownBlock∧some k_≠(.slice (some ⟨go48,0,none⟩) x17_4.length co53:Value).ownBlock∧k_≠gb253) (.slice (some ad271) x13_3.length co38) x13_3):=⟨by (with_reducible repeat(first|apply Kd.R_alloc|apply Kd.R_drewN|apply Kd.R_drew));exact Kd.R_mono (Kd.R_far (p:=⟨go48,((ji44):Int).toNat,none⟩) (Kd.R_mono HO_13.1 (fun k_ hk=>(⟨hk,fun e_=>hk.2.2.1 (by rw [e_];rfl)⟩:_∧k_≠go48))) (fun _ hk=>hk.2) (.int .i64 t273)) (fun _ hk=>⟨hk.1.1,⟨hk.1.2.1,⟨hk.1.2.2.1,hk.1.2.2.2⟩⟩⟩)⟩
                                                      have n3_:Aside0 (Kd.R (Kd.int .i64) 2 (w52.setCell ⟨go48,((ji44):Int).toNat,none⟩ (.int .i64 t273)) w.heap.size (fun k_=>some k_≠(.slice (some ad263) x8_3.length co23:Value).ownBlock∧some k_≠(v261:Value).ownBlock∧some k_≠(.slice (some ad271) x13_3.length co38:Value).ownBlock∧k_≠gb253) (.slice (some ⟨go48,0,none⟩) x17_4.length co53) y274):=⟨by (with_reducible repeat(first|apply Kd.R_alloc|apply Kd.R_drewN|apply Kd.R_drew));exact HQ54.1⟩
                                                      have n4_:Aside0 ((w52.setCell ⟨go48,((ji44):Int).toNat,none⟩ (.int .i64 t273)).heap[gb253]? =some (.cells #[.int .i64 a1] 2 (0,0))):=⟨by (with_reducible repeat(first|refine blk_drewN ?_ _|refine blk_drew ?_|refine blk_alloc ?_ _));refine blk_far ?_ qB47 _;(with_reducible repeat(first|refine blk_drewN ?_ _|refine blk_drew ?_|refine blk_alloc ?_ _));exact BK253.1⟩
                                                      have n5_:Aside0 ((w52.setCell ⟨go48,((ji44):Int).toNat,none⟩ (.int .i64 t273)).heap[gb254]? =some (.cells #[.int .i64 0,.slice none 0 0] 28 (0,0))):=⟨by (with_reducible repeat(first|refine blk_drewN ?_ _|refine blk_drew ?_|refine blk_alloc ?_ _));refine blk_far ?_ qB50 _;(with_reducible repeat(first|refine blk_drewN ?_ _|refine blk_drew ?_|refine blk_alloc ?_ _));exact BK254.1⟩
                                                      have n6_:Aside0 (Below w.heap.size w (w52.setCell ⟨go48,((ji44):Int).toNat,none⟩ (.int .i64 t273))):=⟨by repeat(first|(with_reducible first|exact HB.1|apply below_alloc|apply pw_below_drewN|apply below_drew1|refine below_set ?_ GB48.1|refine below_set ?_ GE253.1|refine below_set ?_ GE254.1)|exact HB.1)⟩
                                                      (try clear HO_8)
                                                      (try clear HO_10)
                                                      (try clear HO_13)
                                                      (try clear HO_17)
                                                      (try clear BK253)
                                                      (try clear BK254)
                                                      (try clear HB)
                                                      (first|(rw [hand_drewN_set];generalize hq_:World.drewN (w52.setCell ⟨go48,((ji44):Int).toNat,none⟩ (.int .i64 t273)) _=w55;have mn0_:Aside0 (Kd.R (Kd.int .i64) 2 w55 w.heap.size (fun k_=>some k_≠(v261:Value).ownBlock∧some k_≠(.slice (some ad271) x13_3.length co38:Value).ownBlock∧some k_≠(.slice (some ⟨go48,0,none⟩) x17_4.length co53:Value).ownBlock∧k_≠gb253) (.slice (some ad263) x8_3.length co23) x8_3):=⟨by rw [← hq_];(with_reducible repeat(first|apply Kd.R_alloc|apply Kd.R_drewN|apply Kd.R_drew|refine blk_drewN ?_ _|refine blk_drew ?_|refine blk_alloc ?_ _));first|exact n0_.1|exact pw_below_drewN n0_.1 _⟩;have mn1_:Aside0 (Kd.R (Kd.int .i64) 2 w55 w.heap.size (fun k_=>some k_≠(.slice (some ad263) x8_3.length co23:Value).ownBlock∧some k_≠(.slice (some ad271) x13_3.length co38:Value).ownBlock∧some k_≠(.slice (some ⟨go48,0,none⟩) x17_4.length co53:Value).ownBlock∧k_≠gb253) v261 x10_3):=⟨by rw [← hq_];(with_reducible repeat(first|apply Kd.R_alloc|apply Kd.R_drewN|apply Kd.R_drew|refine blk_drewN ?_ _|refine blk_drew ?_|refine blk_alloc ?_ _));first|exact n1_.1|exact pw_below_drewN n1_.1 _⟩;have mn2_:Aside0 (Kd.R (Kd.int .i64) 2 w55 w.heap.size (fun k_=>some k_≠(.slice (some ad263) x8_3.length co23:Value).ownBlock∧some k_≠(v261:Value).ownBlock∧some k_≠(.slice (some ⟨go48,0,none⟩) x17_4.length co53:Value).ownBlock∧k_≠gb253) (.slice (some ad271) x13_3.length co38) x13_3):=⟨by rw [← hq_];(with_reducible repeat(first|apply Kd.R_alloc|apply Kd.R_drewN|apply Kd.R_drew|refine blk_drewN ?_ _|refine blk_drew ?_|refine blk_alloc ?_ _));first|exact n2_.1|exact pw_below_drewN n2_.1 _⟩;have mn3_:Aside0 (Kd.R (Kd.int .i64) 2 w55 w.heap.size (fun k_=>some k_≠(.slice (some ad263) x8_3.length co23:Value).ownBlock∧some k_≠(v261:Value).ownBlock∧some k_≠(.slice (some ad271) x13_3.length co38:Value).ownBlock∧k_≠gb253) (.slice (some ⟨go48,0,none⟩) x17_4.length co53) y274):=⟨by rw [← hq_];(with_reducible repeat(first|apply Kd.R_alloc|apply Kd.R_drewN|apply Kd.R_drew|refine blk_drewN ?_ _|refine blk_drew ?_|refine blk_alloc ?_ _));first|exact n3_.1|exact pw_below_drewN n3_.1 _⟩;have mn4_:Aside0 (w55.heap[gb253]? =some (.cells #[.int .i64 a1] 2 (0,0))):=⟨by rw [← hq_];(with_reducible repeat(first|apply Kd.R_alloc|apply Kd.R_drewN|apply Kd.R_drew|refine blk_drewN ?_ _|refine blk_drew ?_|refine blk_alloc ?_ _));first|exact n4_.1|exact pw_below_drewN n4_.1 _⟩;have mn5_:Aside0 (w55.heap[gb254]? =some (.cells #[.int .i64 0,.slice none 0 0] 28 (0,0))):=⟨by rw [← hq_];(with_reducible repeat(first|apply Kd.R_alloc|apply Kd.R_drewN|apply Kd.R_drew|refine blk_drewN ?_ _|refine blk_drew ?_|refine blk_alloc ?_ _));first|exact n5_.1|exact pw_below_drewN n5_.1 _⟩;have mn6_:Aside0 (Below w.heap.size w w55):=⟨by rw [← hq_];(with_reducible repeat(first|apply Kd.R_alloc|apply Kd.R_drewN|apply Kd.R_drew|refine blk_drewN ?_ _|refine blk_drew ?_|refine blk_alloc ?_ _));first|exact n6_.1|exact pw_below_drewN n6_.1 _⟩;clear n0_ n1_ n2_ n3_ n4_ n5_ n6_ hq_;have n0_:=mn0_;have n1_:=mn1_;have n2_:=mn2_;have n3_:=mn3_;have n4_:=mn4_;have n5_:=mn5_;have n6_:=mn6_;clear mn0_ mn1_ mn2_ mn3_ mn4_ mn5_ mn6_)|(generalize (w52.setCell ⟨go48,((ji44):Int).toNat,none⟩ (.int .i64 t273))=w55 at n0_ n1_ n2_ n3_ n4_ n5_ n6_ ⊢))
                                                      have HO_8:=n0_;have HO_10:=n1_;have HO_13:=n2_;have HO_17:=n3_;have BK253:=n4_;have BK254:=n5_;have HB:=n6_;clear n0_ n1_ n2_ n3_ n4_ n5_ n6_
                                                      (try(rw [drewN_self w55];generalize hq_:World.drewN w55 _=w55;have n0_:Aside0 (Kd.R (Kd.int .i64) 2 w55 w.heap.size (fun k_=>some k_≠(.slice (some ad271) x13_3.length co38:Value).ownBlock∧some k_≠(.slice (some ⟨go48,0,none⟩) x17_4.length co53:Value).ownBlock∧some k_≠(.slice (some ad263) x8_3.length co23:Value).ownBlock∧k_≠gb253) v261 x10_3):=⟨by rw [← hq_];exact(by (with_reducible repeat(first|apply Kd.R_alloc|apply Kd.R_drewN|apply Kd.R_drew));exact Kd.R_mono HO_10.1 (fun _ hk=>⟨hk.2.1,⟨hk.2.2.1,⟨hk.1,hk.2.2.2⟩⟩⟩))⟩;have n1_:Aside0 (Kd.R (Kd.int .i64) 2 w55 w.heap.size (fun k_=>some k_≠(v261:Value).ownBlock∧some k_≠(.slice (some ⟨go48,0,none⟩) x17_4.length co53:Value).ownBlock∧some k_≠(.slice (some ad263) x8_3.length co23:Value).ownBlock∧k_≠gb253) (.slice (some ad271) x13_3.length co38) x13_3):=⟨by rw [← hq_];exact(by (with_reducible repeat(first|apply Kd.R_alloc|apply Kd.R_drewN|apply Kd.R_drew));exact Kd.R_mono HO_13.1 (fun _ hk=>⟨hk.2.1,⟨hk.2.2.1,⟨hk.1,hk.2.2.2⟩⟩⟩))⟩;have n2_:Aside0 (Kd.R (Kd.int .i64) 2 w55 w.heap.size (fun k_=>some k_≠(v261:Value).ownBlock∧some k_≠(.slice (some ad271) x13_3.length co38:Value).ownBlock∧some k_≠(.slice (some ad263) x8_3.length co23:Value).ownBlock∧k_≠gb253) (.slice (some ⟨go48,0,none⟩) x17_4.length co53) y274):=⟨by rw [← hq_];exact(by (with_reducible repeat(first|apply Kd.R_alloc|apply Kd.R_drewN|apply Kd.R_drew));exact Kd.R_mono HO_17.1 (fun _ hk=>⟨hk.2.1,⟨hk.2.2.1,⟨hk.1,hk.2.2.2⟩⟩⟩))⟩;have n3_:Aside0 (Kd.R (Kd.int .i64) 2 w55 w.heap.size (fun k_=>some k_≠(v261:Value).ownBlock∧some k_≠(.slice (some ad271) x13_3.length co38:Value).ownBlock∧some k_≠(.slice (some ⟨go48,0,none⟩) x17_4.length co53:Value).ownBlock∧k_≠gb253) (.slice (some ad263) x8_3.length co23) x8_3):=⟨by rw [← hq_];exact qB46⟩;have n4_:Aside0 (w55.heap[gb253]? =some (.cells #[.int .i64 a1] 2 (0,0))):=⟨by rw [← hq_];exact qB24⟩;have n5_:Aside0 (w55.heap[gb254]? =some (.cells #[.int .i64 0,.slice none 0 0] 28 (0,0))):=⟨by rw [← hq_];exact qB25⟩;have n6_:Aside0 (Below w.heap.size w w55):=⟨by rw [← hq_];exact qB10⟩;clear HO_10 HO_13 HO_17 HO_8 BK253 BK254 HB hq_;have HO_10:=n0_;have HO_13:=n1_;have HO_17:=n2_;have HO_8:=n3_;have BK253:=n4_;have BK254:=n5_;have HB:=n6_;clear n0_ n1_ n2_ n3_ n4_ n5_ n6_))
                                                      have n0_:=qAm (Kd.R_drew HO_8.1);have n1_:=qAm (Kd.R_drew HO_10.1);have n2_:=qAm (Kd.R_drew HO_13.1);have n3_:=qAm (Kd.R_drew HO_17.1);have n4_:=qAm (blk_drew BK253.1);have n5_:=qAm (blk_drew BK254.1);have n6_:=qAm (below_drew1 HB.1);clear HO_8 HO_10 HO_13 HO_17 BK253 BK254 HB;have HO_8:=n0_;have HO_10:=n1_;have HO_13:=n2_;have HO_17:=n3_;have BK253:=n4_;have BK254:=n5_;have HB:=n6_;clear n0_ n1_ n2_ n3_ n4_ n5_ n6_;have p275:0≤(x71_4:Int):=of_decide_eq_true qB51;have q275:x71_4<(y274.length:Int):=(by have h_:(x71_4:Int)<((x17_4.length:Int):Int):=of_decide_eq_true qB51;first|(have e_:=(Kd.R_reads' HO_17.1).1;omega)|simpa only [Ny274.1,List.length_set] using h_)
                                                      have ql275:((x71_4:Int)<((x17_4.length:Int):Int))=True:=eq_true (of_decide_eq_true qB51);obtain⟨ad275,e275,hx275_0⟩:=Kd.at_int (Kd.R_reads' HO_17.1).2.2 x71_4 p275 q275;obtain rfl:(⟨go48,0,none⟩:Addr)=ad275:=(by injection e275)
                                                      (first|simp only [add_plain] at hx275_0|simp only [add_at] at hx275_0|simp only [Addr.add,Nat.zero_add] at hx275_0|skip)
                                                      replace p275:=eq_true p275;replace q275:=eq_true q275;refine start_ (n:=14) (S:=fun w'=>w'.cell? ⟨gb253,0,none⟩=some (.int .i64 a1)∧w'.cell? ⟨go48,(x71_4).toNat,none⟩=some (.int .i64 (rd y274 x71_4))) (ds:=[13]) #[false,false,false,false,false,false,false,false,false,false,false,false,false,false] (by kernel_rfl) rfl rfl ⟨(blk_cell BK253.1 0).trans rfl,hx275_0⟩ (fun hHeld=>?_);refine with_tabW impl_CycloAtResidues.tab18 impl_CycloAtResidues.bits18 (fun HT_ HW_=>?_);generalize w55.drew=w56 at HO_8 HO_10 HO_13 HO_17 BK253 BK254 HB HQ54 hx275_0 hHeld ⊢;refine pure_ (i:=0) (N:=some 89) (v:=?_) (a':=?_) #[true,false,false,false,false,false,false,false,false,false,false,false,false,false] rfl rfl (any_of HT_.1 (by kernel_rfl)) (fun _ _ _ h=>h) (Or.inl ⟨by rfl,?_⟩) ?_ ?_;rotate_left
                                                      · intro w'
                                                        go_simp;with_reducible rfl
                                                      rotate_left
                                                      · simp only [Act.put,qSa,qSb,qSc,i64_w,i32_w]
                                                        rfl
                                                      refine pure_ (i:=1) (N:=some 90) (v:=?_) (a':=?_) #[true,true,false,false,false,false,false,false,false,false,false,false,false,false] rfl rfl (any_of HT_.1 (by kernel_rfl)) (fun _ _ _ h=>h) (Or.inl ⟨by rfl,?_⟩) ?_ ?_;rotate_left
                                                      · intro w'
                                                        go_simp;with_reducible rfl
                                                      rotate_left
                                                      · simp only [Act.put,qSa,qSb,qSc,i64_w,i32_w]
                                                        rfl
                                                      refine pure_ (i:=2) (N:=some 91) (v:=?_) (a':=?_) #[true,true,true,false,false,false,false,false,false,false,false,false,false,false] rfl rfl (any_of HT_.1 (by kernel_rfl)) (fun _ _ _ h=>h) (Or.inl ⟨by rfl,?_⟩) ?_ ?_;rotate_left
                                                      · intro w'
                                                        go_simp;with_reducible rfl
                                                      rotate_left
                                                      · simp only [Act.put,qSa,qSb,qSc,i64_w,i32_w]
                                                        rfl
                                                      refine pure_ (i:=3) (N:=some 92) (v:=?_) (a':=?_) #[true,true,true,true,false,false,false,false,false,false,false,false,false,false] rfl rfl (any_of HT_.1 (by kernel_rfl)) (fun _ _ _ h=>h) (Or.inl ⟨by rfl,?_⟩) ?_ ?_;rotate_left
                                                      · intro w'
                                                        go_simp;with_reducible rfl
                                                      rotate_left
                                                      · simp only [Act.put,qSa,qSb,qSc,i64_w,i32_w]
                                                        rfl
                                                      refine pure_ (i:=4) (N:=some 93) (v:=?_) (a':=?_) #[true,true,true,true,true,false,false,false,false,false,false,false,false,false] rfl rfl (any_of HT_.1 (by kernel_rfl)) (fun _ _ _ h=>h) (Or.inl ⟨by rfl,?_⟩) ?_ ?_;rotate_left
                                                      · intro w'
                                                        go_simp;with_reducible rfl
                                                      rotate_left
                                                      · simp only [Act.put,qSa,qSb,qSc,i64_w,i32_w]
                                                        rfl
                                                      refine pure_ (i:=6) (N:=some 95) (v:=?_) (a':=?_) #[true,true,true,true,true,false,true,false,false,false,false,false,false,false] rfl rfl (any_of HT_.1 (by kernel_rfl)) (fun _ _ _ h=>h) (Or.inl ⟨by rfl,?_⟩) ?_ ?_;rotate_left
                                                      · intro w'
                                                        go_simp;with_reducible rfl
                                                      rotate_left
                                                      · simp only [Act.put,qSa,qSb,qSc,i64_w,i32_w]
                                                        rfl
                                                      refine pure_ (i:=7) (N:=some 96) (v:=?_) (a':=?_) #[true,true,true,true,true,false,true,true,false,false,false,false,false,false] rfl rfl (any_of HT_.1 (by kernel_rfl)) (fun _ _ _ h=>h) (Or.inl ⟨by rfl,?_⟩) ?_ ?_;rotate_left
                                                      · intro w'
                                                        go_simp;with_reducible rfl
                                                      rotate_left
                                                      · simp only [Act.put,qSa,qSb,qSc,i64_w,i32_w]
                                                        rfl
                                                      refine pure_ (i:=8) (N:=some 97) (v:=?_) (a':=?_) #[true,true,true,true,true,false,true,true,true,false,false,false,false,false] rfl rfl (any_of HT_.1 (by kernel_rfl)) (fun _ _ _ h=>h) (Or.inl ⟨by rfl,?_⟩) ?_ ?_;rotate_left
                                                      · intro w'
                                                        go_simp;with_reducible rfl
                                                      rotate_left
                                                      · simp only [Act.put,qSa,qSb,qSc,i64_w,i32_w]
                                                        rfl
                                                      refine take_ (i:=5) (N:=some 94) (v:=?_) (a':=?_) #[true,true,true,true,true,true,true,true,true,false,false,false,false,false] rfl rfl (take_ofW HT_.1 HW_.1 (by kernel_rfl)) (fun _ _ _ h=>h) (Or.inl ⟨by rfl,?_⟩) hHeld ?_ ?_;rotate_left
                                                      · rintro w' ⟨s0,s1⟩
                                                        go_simp;with_reducible rfl
                                                      rotate_left
                                                      · simp only [Act.put,qSa,qSb,qSc,i64_w,i32_w]
                                                        rfl
                                                      refine pure_ (i:=9) (N:=some 98) (v:=?_) (a':=?_) #[true,true,true,true,true,true,true,true,true,true,false,false,false,false] rfl rfl (any_of HT_.1 (by kernel_rfl)) (fun _ _ _ h=>h) (Or.inl ⟨by rfl,?_⟩) ?_ ?_;rotate_left
                                                      · intro w'
                                                        go_simp;with_reducible rfl
                                                      rotate_left
                                                      · simp only [Act.put,qSa,qSb,qSc,i64_w,i32_w]
                                                        rfl
                                                      refine take_ (i:=10) (N:=some 99) (v:=?_) (a':=?_) #[true,true,true,true,true,true,true,true,true,true,true,false,false,false] rfl rfl (take_ofW HT_.1 HW_.1 (by kernel_rfl)) (fun _ _ _ h=>h) (Or.inl ⟨by rfl,?_⟩) hHeld ?_ ?_;rotate_left
                                                      · rintro w' ⟨s0,s1⟩
                                                        go_simp;with_reducible rfl
                                                      rotate_left
                                                      · simp only [Act.put,qSa,qSb,qSc,i64_w,i32_w]
                                                        rfl
                                                      refine one_ (i:=11) (N:=some 100) #[true,true,true,true,true,true,true,true,true,true,true,true,false,false] rfl rfl (one_of HT_.1 (by kernel_rfl)) (by decide) (fun K hK=>?_);refine goes_ Try.func88 (by kernel_rfl) rfl #[.int .i64 (wrap64 ((rd y274 x71_4) - (wrap64 ((rd x13_3 x71_4)*(rd x8_3 x57_3))))),.int .i64 a1] (by rfl) rfl rfl qB17 ?_;with_reducible refine(impl_around.calls (wrap64 ((rd y274 x71_4) - (wrap64 ((rd x13_3 x71_4)*(rd x8_3 x57_3))))) a1 t276 _ A50.1).mono ?_
                                                      rintro e w' ⟨rfl,⟨nd,rfl⟩⟩;refine⟨_,rfl,?_⟩;have p51:0≤(x71_4:Int):=of_decide_eq_true qB51;have q51:(x71_4:Int)<((x17_4.length:Int):Int):=of_decide_eq_true qB51;obtain⟨hx51_0,hf51_0⟩:=Kd.R_celln 0 HO_17.1 (x71_4:Int) p51 q51;replace p51:=eq_true p51;replace q51:=eq_true q51;have HP57:=Kd.R_putn HO_17.1 (x71_4:Int) t276;rw [← Ny277.1] at HP57;have HQ57:=qAm HP57;clear HP57;refine hK.out _ _ ⟨(blk_cell BK253.1 0).trans rfl,hHeld.2⟩ (fun hHeld=>?_);clear hK K;refine norm_ (a':=?_) ?_ ?_;rotate_left
                                                      · show Act.put _ (some 100) _=_
                                                        simp only [Act.put,qSa,qSb,qSc,i64_w,i32_w];rfl
                                                      refine pure_ (i:=12) (N:=some 101) (v:=?_) (a':=?_) #[true,true,true,true,true,true,true,true,true,true,true,true,true,false] rfl rfl (any_of HT_.1 (by kernel_rfl)) (fun _ _ _ h=>h) (Or.inl ⟨by rfl,?_⟩) ?_ ?_;rotate_left
                                                      · intro w'
                                                        go_simp;with_reducible rfl
                                                      rotate_left
                                                      · simp only [Act.put,qSa,qSb,qSc,i64_w,i32_w]
                                                        rfl
                                                      refine last_ (i:=13) (N:=none) #[true,true,true,true,true,true,true,true,true,true,true,true,true,true] rfl rfl (one_of HT_.1 (by kernel_rfl)) (by decide) (fun K hK=>?_);refine skip_ (w1:=?_) (by rfl) rfl ?_ ?_;rotate_left
                                                      · go_simp
                                                        rfl
                                                      refine hK.out _ _ ?_;clear hK K;refine done_ (done_of HT_.1 (by kernel_rfl)) ?_;try go_wp2
                                                      (first|go_roundg k4|((try simp only [add_plain] at *);go_roundg k4))
                                                      case measure=>have:=HJ4.1;have:=HK2.1;have:=HK3.1;have:=HK4.1;omega
                                                      case rel=>exact⟨(y277),(ji44),(by first|rfl|(simp;done)|(simp only [← hji44] <;> (first|rfl|simp))|(simp [*];done)),H',⟨by have:=HJ4.1;have:=HK2.1;have:=HK3.1;have:=HK4.1;omega⟩,⟨by (try simp only [hl8_2]);(try simp only [hl8_3]);(with_reducible repeat(first|apply Kd.R_alloc|apply Kd.R_drewN|apply Kd.R_drew));exact Kd.R_mono (Kd.R_far (p:=⟨go48,(x71_4:Int).toNat,none⟩) (Kd.R_mono HO_8.1 (fun k_ hk=>(⟨hk,fun e_=>hk.2.2.1 (by rw [e_];rfl)⟩:_∧k_≠go48))) (fun _ hk=>hk.2) (.int .i64 t276)) (fun _ hk=>⟨hk.1.1,⟨hk.1.2.1,⟨hk.1.2.2.1,hk.1.2.2.2⟩⟩⟩)⟩,⟨by (try simp only [hl8_2]);(try simp only [hl8_3]);(with_reducible repeat(first|apply Kd.R_alloc|apply Kd.R_drewN|apply Kd.R_drew));exact Kd.R_mono (Kd.R_far (p:=⟨go48,(x71_4:Int).toNat,none⟩) (Kd.R_mono HO_10.1 (fun k_ hk=>(⟨hk,fun e_=>hk.2.2.1 (by rw [e_];rfl)⟩:_∧k_≠go48))) (fun _ hk=>hk.2) (.int .i64 t276)) (fun _ hk=>⟨hk.1.1,⟨hk.1.2.1,⟨hk.1.2.2.1,hk.1.2.2.2⟩⟩⟩)⟩,⟨by (try simp only [hl8_2]);(try simp only [hl8_3]);(with_reducible repeat(first|apply Kd.R_alloc|apply Kd.R_drewN|apply Kd.R_drew));exact Kd.R_mono (Kd.R_far (p:=⟨go48,(x71_4:Int).toNat,none⟩) (Kd.R_mono HO_13.1 (fun k_ hk=>(⟨hk,fun e_=>hk.2.2.1 (by rw [e_];rfl)⟩:_∧k_≠go48))) (fun _ hk=>hk.2) (.int .i64 t276)) (fun _ hk=>⟨hk.1.1,⟨hk.1.2.1,⟨hk.1.2.2.1,hk.1.2.2.2⟩⟩⟩)⟩,⟨by (try simp only [hl8_2]);(try simp only [hl8_3]);(with_reducible repeat(first|apply Kd.R_alloc|apply Kd.R_drewN|apply Kd.R_drew));exact HQ57.1⟩,⟨by (try simp only [hl8_2]);(try simp only [hl8_3]);(with_reducible repeat(first|refine blk_drewN ?_ _|refine blk_drew ?_|refine blk_alloc ?_ _));refine blk_far ?_ qB47 _;(with_reducible repeat(first|refine blk_drewN ?_ _|refine blk_drew ?_|refine blk_alloc ?_ _));exact BK253.1⟩,⟨by (try simp only [hl8_2]);(try simp only [hl8_3]);(with_reducible repeat(first|refine blk_drewN ?_ _|refine blk_drew ?_|refine blk_alloc ?_ _));refine blk_far ?_ qB50 _;(with_reducible repeat(first|refine blk_drewN ?_ _|refine blk_drew ?_|refine blk_alloc ?_ _));exact BK254.1⟩,⟨by repeat(first|(with_reducible first|exact HB.1|apply below_alloc|apply pw_below_drewN|apply below_drew1|refine below_set ?_ GB48.1|refine below_set ?_ GE253.1|refine below_set ?_ GE254.1)|exact HB.1)⟩⟩
                                                    · rw [if_neg c49] at H
                                                      exact absurd H (by simp)
                                                  · rw [if_neg c46] at H
                                                    exact absurd H (by simp)
                                                · rw [if_neg c45] at H
                                                  exact absurd H (by simp)
                                              · rw [if_neg c43] at H
                                                exact absurd H (by simp)
                                            · rw [if_neg c42] at H
                                              exact absurd H (by simp)
                                          · rw [if_neg c41] at H
                                            have c41b0:decide (x71_4<(x13_3.length:Int))=false:=decide_eq_false c41;have c41b0_0:=c41b0
                                            (try rw [hl8_2] at c41b0_0)
                                            have c41b0_1:=c41b0
                                            (try rw [hl8_3] at c41b0_1)
                                            clear c41;replace H:=qOb H;obtain⟨t278,A580,H⟩:=H;replace H:(impl_CycloAtResidues.l1 k4 a0 l2 x8_3 x10_3 x49_2 (rd x8_2 x49_2) x17_4 t278 (t255.length:Int) x49_2 (x8_2.length:Int) (wrap64 (x57_3+1)) a1)=some (r1,r2,r3):=H;have A58:=qAm A580;clear A580;have H':=qAm H;clear H;have hnb59:=NB253_254.1;have hnc59:=NB254_253.1;have hcz60_0:wr.cell? ⟨gb253,0,none⟩=some (.int .i64 a1):=(blk_cell BK253.1 0).trans rfl;have hfz60_0:=blk_frozen BK253.1 0;go_wp2_with (first|((with_reducible refine gate_callee (f:=88) rfl ?_);refine goesL_ (some 110) rfl rfl Try.func88 (by kernel_rfl) rfl #[.int .i64 (wrap64 (x14_3*(wrap64 ((rd x8_2 x49_2) - (rd x8_3 x57_3))))),.int .i64 a1] rfl qB17 ?_;(with_reducible refine(impl_around.calls (wrap64 (x14_3*(wrap64 ((rd x8_2 x49_2) - (rd x8_3 x57_3))))) a1 t278 _ A58.1).mono ?_);rintro e w' ⟨rfl,⟨nd,rfl⟩⟩;refine⟨_,rfl,?_⟩))
                                            (try simp only [← hl8_3])
                                            (first|go_roundg k4|((try simp only [add_plain] at *);go_roundg k4))
                                            case measure=>have:=HJ4.1;have:=HK2.1;have:=HK3.1;have:=HK4.1;omega
                                            case rel=>exact⟨(x8_3),(x10_3),(x17_4),(t278),(wrap64 (x57_3+1)),qB52,qB52,H',⟨by have:=HJ4.1;have:=HK2.1;have:=HK3.1;have:=HK4.1;omega⟩,⟨by (try simp only [hl8_2]);(try simp only [hl8_3]);(with_reducible repeat(first|apply Kd.R_alloc|apply Kd.R_drewN|apply Kd.R_drew));exact Kd.R_mono HO_8.1 (fun _ hk=>⟨hk.1,⟨hk.2.2.1,hk.2.2.2⟩⟩)⟩,⟨by (try simp only [hl8_2]);(try simp only [hl8_3]);(with_reducible repeat(first|apply Kd.R_alloc|apply Kd.R_drewN|apply Kd.R_drew));exact Kd.R_mono HO_10.1 (fun _ hk=>⟨hk.1,⟨hk.2.2.1,hk.2.2.2⟩⟩)⟩,⟨by (try simp only [hl8_2]);(try simp only [hl8_3]);(with_reducible repeat(first|apply Kd.R_alloc|apply Kd.R_drewN|apply Kd.R_drew));exact Kd.R_mono HO_17.1 (fun _ hk=>⟨hk.1,⟨hk.2.1,hk.2.2.2⟩⟩)⟩,⟨by (try simp only [hl8_2]);(try simp only [hl8_3]);(with_reducible repeat(first|refine blk_drewN ?_ _|refine blk_drew ?_|refine blk_alloc ?_ _));exact BK253.1⟩,⟨by (try simp only [hl8_2]);(try simp only [hl8_3]);(with_reducible repeat(first|refine blk_drewN ?_ _|refine blk_drew ?_|refine blk_alloc ?_ _));exact BK254.1⟩,⟨by repeat(first|(with_reducible first|exact HB.1|apply below_alloc|apply pw_below_drewN|apply below_drew1|refine below_set ?_ GE253.1|refine below_set ?_ GE254.1)|exact HB.1)⟩⟩
                                    · rw [if_neg c37] at H
                                      exact absurd H (by simp)
                                  · rw [if_neg c36] at H
                                    exact absurd H (by simp)
                              · rw [if_neg c33] at H
                                exact absurd H (by simp)
                            · rw [if_neg c32] at H
                              exact absurd H (by simp)
                          · rw [if_neg c31] at H
                            have c31b0:decide (x57_3<(x8_2.length:Int))=false:=decide_eq_false c31;have c31b0_0:=c31b0
                            (try rw [hl8_2] at c31b0_0)
                            have c31b0_1:=c31b0
                            (try rw [hl8_3] at c31b0_1)
                            clear c31
                            by_cases c61:0≤x49_2
                            · rw [if_pos c61] at H
                              have c61b0:decide (0≤x49_2)=true:=decide_eq_true c61;clear c61
                              by_cases c62:x49_2<(l2.length:Int)
                              · rw [if_pos c62] at H
                                have c62b0:decide (x49_2<(l2.length:Int))=true:=decide_eq_true c62;clear c62;replace H:=qOb H;obtain⟨t280,A630,H⟩:=H;replace H:(if a1=0 then (none) else (impl_CycloAtResidues.l3 k3 a0 l2 x8_3 x10_3 x13_3 (Int.tmod (wrap64 ((rd l2 x49_2)*t280)) a1) (t255.length:Int) x49_2 (x13_3.length:Int) 0 a1))=some (r1,r2,r3):=H;have A63:=qAm A630;clear A630
                                by_cases c64:a1=0
                                · rw [if_pos c64] at H
                                  exact absurd H (by simp)
                                · rw [if_neg c64] at H
                                  have c64b0:(a1==0)=false:=beq_eq_false_iff_ne.mpr c64;have c64b1:(a1 !=0)=true:=bne_iff_ne.mpr c64;have H':=qAm H;clear H;try go_wp2
                                  have n0_:=qAm (Kd.R_drew HO_8.1);have n1_:=qAm (Kd.R_drew HO_10.1);have n2_:=qAm (Kd.R_drew HO_13.1);have n3_:=qAm (blk_drew BK253.1);have n4_:=qAm (blk_drew BK254.1);have n5_:=qAm (below_drew1 HB.1);clear HO_8 HO_10 HO_13 BK253 BK254 HB;have HO_8:=n0_;have HO_10:=n1_;have HO_13:=n2_;have BK253:=n3_;have BK254:=n4_;have HB:=n5_;clear n0_ n1_ n2_ n3_ n4_ n5_;have p279:0≤(x49_2:Int):=of_decide_eq_true qB51;have q279:x49_2<(l2.length:Int):=of_decide_eq_true qB51;obtain⟨ad279,e279,hx279_0⟩:=Kd.at_int HR2.1 x49_2 p279 q279;have hw279_0:=hx279_0;cases e279
                                  replace hx279_0:=(HB.1.cell (World.block_lt_of_cell? w _ hx279_0)).trans hx279_0;replace p279:=eq_true p279;replace q279:=eq_true q279;refine start_ (n:=13) (S:=fun w'=>w'.cell? ⟨gb253,0,none⟩=some (.int .i64 a1)∧w'.cell? (ad279.add (x49_2).toNat)=some (.int .i64 (rd l2 x49_2))) (ds:=[]) #[false,false,false,false,false,false,false,false,false,false,false,false,false] (by kernel_rfl) rfl rfl ⟨(blk_cell BK253.1 0).trans rfl,((HB.1.cell (World.block_lt_of_cell? w _ hw279_0)).trans hw279_0)⟩ (fun hHeld=>?_);refine with_tabW impl_CycloAtResidues.tab22 impl_CycloAtResidues.bits22 (fun HT_ HW_=>?_);generalize wr.drew=w65 at HO_8 HO_10 HO_13 BK253 BK254 HB hx279_0 hHeld ⊢;refine pure_ (i:=0) (N:=some 112) (v:=?_) (a':=?_) #[true,false,false,false,false,false,false,false,false,false,false,false,false] rfl rfl (any_of HT_.1 (by kernel_rfl)) (fun _ _ _ h=>h) (Or.inl ⟨by rfl,?_⟩) ?_ ?_;rotate_left
                                  · intro w'
                                    go_simp;with_reducible rfl
                                  rotate_left
                                  · simp only [Act.put,qSa,qSb,qSc,i64_w,i32_w]
                                    rfl
                                  refine pure_ (i:=1) (N:=some 113) (v:=?_) (a':=?_) #[true,true,false,false,false,false,false,false,false,false,false,false,false] rfl rfl (any_of HT_.1 (by kernel_rfl)) (fun _ _ _ h=>h) (Or.inl ⟨by rfl,?_⟩) ?_ ?_;rotate_left
                                  · intro w'
                                    go_simp;with_reducible rfl
                                  rotate_left
                                  · simp only [Act.put,qSa,qSb,qSc,i64_w,i32_w]
                                    rfl
                                  refine pure_ (i:=2) (N:=some 114) (v:=?_) (a':=?_) #[true,true,true,false,false,false,false,false,false,false,false,false,false] rfl rfl (any_of HT_.1 (by kernel_rfl)) (fun _ _ _ h=>h) (Or.inl ⟨by rfl,?_⟩) ?_ ?_;rotate_left
                                  · intro w'
                                    go_simp;with_reducible rfl
                                  rotate_left
                                  · simp only [Act.put,qSa,qSb,qSc,i64_w,i32_w]
                                    rfl
                                  refine pure_ (i:=4) (N:=some 116) (v:=?_) (a':=?_) #[true,true,true,false,true,false,false,false,false,false,false,false,false] rfl rfl (any_of HT_.1 (by kernel_rfl)) (fun _ _ _ h=>h) (Or.inl ⟨by rfl,?_⟩) ?_ ?_;rotate_left
                                  · intro w'
                                    go_simp;with_reducible rfl
                                  rotate_left
                                  · simp only [Act.put,qSa,qSb,qSc,i64_w,i32_w]
                                    rfl
                                  refine take_ (i:=3) (N:=some 115) (v:=?_) (a':=?_) #[true,true,true,true,true,false,false,false,false,false,false,false,false] rfl rfl (take_ofW HT_.1 HW_.1 (by kernel_rfl)) (fun _ _ _ h=>h) (Or.inl ⟨by rfl,?_⟩) hHeld ?_ ?_;rotate_left
                                  · rintro w' ⟨s0,s1⟩
                                    go_simp;with_reducible rfl
                                  rotate_left
                                  · simp only [Act.put,qSa,qSb,qSc,i64_w,i32_w]
                                    rfl
                                  refine take_ (i:=5) (N:=some 117) (v:=?_) (a':=?_) #[true,true,true,true,true,true,false,false,false,false,false,false,false] rfl rfl (take_ofW HT_.1 HW_.1 (by kernel_rfl)) (fun _ _ _ h=>h) (Or.inl ⟨by rfl,?_⟩) hHeld ?_ ?_;rotate_left
                                  · rintro w' ⟨s0,s1⟩
                                    go_simp;with_reducible rfl
                                  rotate_left
                                  · simp only [Act.put,qSa,qSb,qSc,i64_w,i32_w]
                                    rfl
                                  refine pure_ (i:=6) (N:=some 118) (v:=?_) (a':=?_) #[true,true,true,true,true,true,true,false,false,false,false,false,false] rfl rfl (any_of HT_.1 (by kernel_rfl)) (fun _ _ _ h=>h) (Or.inl ⟨by rfl,?_⟩) ?_ ?_;rotate_left
                                  · intro w'
                                    go_simp;with_reducible rfl
                                  rotate_left
                                  · simp only [Act.put,qSa,qSb,qSc,i64_w,i32_w]
                                    rfl
                                  refine take_ (i:=7) (N:=some 119) (v:=?_) (a':=?_) #[true,true,true,true,true,true,true,true,false,false,false,false,false] rfl rfl (take_ofW HT_.1 HW_.1 (by kernel_rfl)) (fun _ _ _ h=>h) (Or.inl ⟨by rfl,?_⟩) hHeld ?_ ?_;rotate_left
                                  · rintro w' ⟨s0,s1⟩
                                    go_simp;with_reducible rfl
                                  rotate_left
                                  · simp only [Act.put,qSa,qSb,qSc,i64_w,i32_w]
                                    rfl
                                  refine take_ (i:=10) (N:=some 122) (v:=?_) (a':=?_) #[true,true,true,true,true,true,true,true,false,false,true,false,false] rfl rfl (take_ofW HT_.1 HW_.1 (by kernel_rfl)) (fun _ _ _ h=>h) (Or.inl ⟨by rfl,?_⟩) hHeld ?_ ?_;rotate_left
                                  · rintro w' ⟨s0,s1⟩
                                    go_simp;with_reducible rfl
                                  rotate_left
                                  · simp only [Act.put,qSa,qSb,qSc,i64_w,i32_w]
                                    rfl
                                  refine one_ (i:=8) (N:=some 120) #[true,true,true,true,true,true,true,true,true,false,true,false,false] rfl rfl (one_of HT_.1 (by kernel_rfl)) (by decide) (fun K hK=>?_);refine goes_ Try.func89 (by kernel_rfl) rfl #[.int .i64 x14_3,.int .i64 (wrap64 (a1 - 2)),.int .i64 a1] (by rfl) rfl rfl qB17 ?_;with_reducible refine(impl_power.calls k3 x14_3 (wrap64 (a1 - 2)) a1 t280 _ A63.1).mono ?_
                                  rintro e w' ⟨rfl,⟨nd,rfl⟩⟩;refine⟨_,rfl,?_⟩;refine hK.out _ _ ⟨(blk_cell BK253.1 0).trans rfl,((HB.1.cell (World.block_lt_of_cell? w _ hw279_0)).trans hw279_0)⟩ (fun hHeld=>?_);clear hK K;refine norm_ (a':=?_) ?_ ?_;rotate_left
                                  · show Act.put _ (some 120) _=_
                                    simp only [Act.put,qSa,qSb,qSc,i64_w,i32_w];rfl
                                  refine pure_ (i:=9) (N:=some 121) (v:=?_) (a':=?_) #[true,true,true,true,true,true,true,true,true,true,true,false,false] rfl rfl (any_of HT_.1 (by kernel_rfl)) (fun _ _ _ h=>h) (Or.inl ⟨by rfl,?_⟩) ?_ ?_;rotate_left
                                  · intro w'
                                    go_simp;with_reducible rfl
                                  rotate_left
                                  · simp only [Act.put,qSa,qSb,qSc,i64_w,i32_w]
                                    rfl
                                  refine pure_ (i:=11) (N:=some 123) (v:=?_) (a':=?_) #[true,true,true,true,true,true,true,true,true,true,true,true,false] rfl rfl (any_of HT_.1 (by kernel_rfl)) (fun _ _ _ h=>h) (Or.inl ⟨by rfl,?_⟩) ?_ ?_;rotate_left
                                  · intro w'
                                    go_simp;with_reducible rfl
                                  rotate_left
                                  · simp only [Act.put,qSa,qSb,qSc,i64_w,i32_w]
                                    rfl
                                  refine pure_ (i:=12) (N:=some 20) (v:=?_) (a':=?_) #[true,true,true,true,true,true,true,true,true,true,true,true,true] rfl rfl (any_of HT_.1 (by kernel_rfl)) (fun _ _ _ h=>h) (Or.inl ⟨by rfl,?_⟩) ?_ ?_;rotate_left
                                  · intro w'
                                    go_simp;with_reducible rfl
                                  rotate_left
                                  · simp only [Act.put,qSa,qSb,qSc,i64_w,i32_w]
                                    rfl
                                  refine done_ (done_of HT_.1 (by kernel_rfl)) ?_;obtain⟨Ao66,co66,eo66⟩:=Kd.R_slice HO_13.1;subst eo66;try go_wp2
                                  try simp only [Act.put,qSa,qSc,qSb]
                                  go_loopg [126] k3 (fun kq v126 w'=>∃(x10_4:List Int) (x126_4:Int),v126=.int .i64 x126_4∧Aside0 (impl_CycloAtResidues.l3 kq a0 l2 x8_3 x10_4 x13_3 (Int.tmod (wrap64 ((rd l2 x49_2)*t280)) a1) (t255.length:Int) x49_2 (x13_3.length:Int) x126_4 a1=some (r1,r2,r3))∧Aside0 (kq≤k3)∧Aside0 (Kd.R (Kd.int .i64) 2 w' w.heap.size (fun k_=>some k_≠(v261:Value).ownBlock∧some k_≠((.slice Ao66 x13_3.length co66):Value).ownBlock∧k_≠gb253) (.slice (some ad263) x8_3.length co23) x8_3)∧Aside0 (Kd.R (Kd.int .i64) 2 w' w.heap.size (fun k_=>some k_≠((.slice (some ad263) x8_3.length co23):Value).ownBlock∧some k_≠((.slice Ao66 x13_3.length co66):Value).ownBlock∧k_≠gb253) v261 x10_4)∧Aside0 (Kd.R (Kd.int .i64) 2 w' w.heap.size (fun k_=>some k_≠((.slice (some ad263) x8_3.length co23):Value).ownBlock∧some k_≠(v261:Value).ownBlock∧k_≠gb253) (.slice Ao66 x13_3.length co66) x13_3)∧Aside0 (w'.heap[gb253]? =some (.cells #[.int .i64 a1] 2 (0,0)))∧Aside0 (w'.heap[gb254]? =some (.cells #[.int .i64 0,(.slice none 0 0)] 28 (0,0)))∧Aside0 (Below w.heap.size w w'))
                                  case atStart=>exact⟨(x10_3),(0),qB52,H',⟨Nat.le_refl _⟩,⟨by (try simp only [hl8_2]);(try simp only [hl8_3]);(with_reducible repeat(first|apply Kd.R_alloc|apply Kd.R_drewN|apply Kd.R_drew));exact HO_8.1⟩,⟨by (try simp only [hl8_2]);(try simp only [hl8_3]);(with_reducible repeat(first|apply Kd.R_alloc|apply Kd.R_drewN|apply Kd.R_drew));exact HO_10.1⟩,⟨by (try simp only [hl8_2]);(try simp only [hl8_3]);(with_reducible repeat(first|apply Kd.R_alloc|apply Kd.R_drewN|apply Kd.R_drew));exact HO_13.1⟩,⟨by (try simp only [hl8_2]);(try simp only [hl8_3]);(with_reducible repeat(first|refine blk_drewN ?_ _|refine blk_drew ?_|refine blk_alloc ?_ _));exact BK253.1⟩,⟨by (try simp only [hl8_2]);(try simp only [hl8_3]);(with_reducible repeat(first|refine blk_drewN ?_ _|refine blk_drew ?_|refine blk_alloc ?_ _));exact BK254.1⟩,⟨by repeat(first|(with_reducible first|exact HB.1|apply below_alloc|apply pw_below_drewN|apply below_drew1|refine below_set ?_ GE253.1|refine below_set ?_ GE254.1)|exact HB.1)⟩⟩
                                  case round=>
                                    clear H';try clear p2
                                    try clear q2
                                    try clear hx2
                                    try clear c3
                                    try clear c4
                                    try clear p4
                                    try clear q4
                                    try clear hx4
                                    try clear hf4
                                    try clear c5
                                    try clear p5
                                    try clear q5
                                    try clear hx5
                                    try clear hf5
                                    try clear c6
                                    try clear p6
                                    try clear c8
                                    try clear p27
                                    try clear q27
                                    try clear hx27
                                    try clear c31
                                    try clear c31b0
                                    try clear c32
                                    try clear c33
                                    try clear c36
                                    try clear c37
                                    try clear c41
                                    try clear c41b0
                                    try clear c42
                                    try clear c43
                                    try clear c43b0
                                    try clear c45
                                    try clear c45b0
                                    try clear c46
                                    try clear c46b0
                                    try clear p48
                                    try clear q48
                                    try clear hx48
                                    try clear hf48
                                    try clear c49
                                    try clear c49b0
                                    try clear p51
                                    try clear q51
                                    try clear hx51
                                    try clear hf51
                                    try clear c59
                                    try clear c61
                                    try clear c61b0
                                    try clear c62
                                    try clear c62b0
                                    try clear c64
                                    try clear c64b0
                                    try clear c64b1
                                    try clear p64
                                    try clear hcz60_0
                                    try clear hfz60_0
                                    try clear hx271_0
                                    try clear hx272_0
                                    try clear hx275_0
                                    try clear hx279_0
                                    try clear hx48_0
                                    try clear hx51_0
                                    try clear p271
                                    try clear p272
                                    try clear p275
                                    try clear p279
                                    try clear p48
                                    try clear p51
                                    try clear q271
                                    try clear q272
                                    try clear q275
                                    try clear q279
                                    try clear q48
                                    try clear q51
                                    obtain⟨x10_4,x126_4,rfl,HA,HK4,HO_8,HO_10,HO_13,BK253,BK254,HB⟩:=hrel;cases gk with
                                    |zero=>exact absurd HA.1 (by simp [impl_CycloAtResidues.l3])
                                    |succ k4=>
                                      have H:=HA.1;clear HA;simp only [impl_CycloAtResidues.l3] at H
                                      by_cases c67:x126_4<(x13_3.length:Int)
                                      · rw [if_pos c67] at H
                                        have c67b0:decide (x126_4<(x13_3.length:Int))=true:=decide_eq_true c67;clear c67
                                        by_cases c68:0≤x126_4
                                        · rw [if_pos c68] at H
                                          have c68b0:decide (0≤x126_4)=true:=decide_eq_true c68;clear c68
                                          by_cases c69:x126_4<(x13_3.length:Int)
                                          · rw [if_pos c69] at H
                                            have c69b0:decide (x126_4<(x13_3.length:Int))=true:=decide_eq_true c69;clear c69
                                            by_cases c70:x126_4<(x10_4.length:Int)
                                            · rw [if_pos c70] at H
                                              have c70b0:decide (x126_4<(x10_4.length:Int))=true:=decide_eq_true c70;clear c70
                                              by_cases c71:a1=0
                                              · rw [if_pos c71] at H
                                                exact absurd H (by simp)
                                              · rw [if_neg c71] at H
                                                have c71b0:(a1==0)=false:=beq_eq_false_iff_ne.mpr c71;have c71b1:(a1 !=0)=true:=bne_iff_ne.mpr c71;obtain⟨y283,hy283⟩:∃y_:List Int,y_=(x10_4.set (x126_4:Int).toNat (Int.tmod (wrap64 ((rd x10_4 x126_4)+(wrap64 ((rd x13_3 x126_4)*(Int.tmod (wrap64 ((rd l2 x49_2)*t280)) a1))))) a1)):=⟨_,rfl⟩
                                                replace H:(impl_CycloAtResidues.l3 k4 a0 l2 x8_3 y283 x13_3 (Int.tmod (wrap64 ((rd l2 x49_2)*t280)) a1) (t255.length:Int) x49_2 (x13_3.length:Int) (wrap64 (x126_4+1)) a1)=some (r1,r2,r3):=by first|(rw [hy283];with_reducible exact H)|(have H2_:=(Option.bind_some _ _).symm.trans H;rw [hy283];with_reducible exact H2_)|(have H2_:=(Option.bind_some _ _).symm.trans H;with_reducible exact H2_)|with_reducible exact H|(rw [hy283];exact H)|exact H
                                                have Ny283:=qAm hy283;clear hy283;have H':=qAm H;clear H;have p281:0≤(x126_4:Int):=of_decide_eq_true qB51;have q281:x126_4<(x13_3.length:Int):=of_decide_eq_true qB51;obtain⟨ad281,e281,hx281_0⟩:=Kd.at_int (Kd.R_reads' HO_13.1).2.2 x126_4 p281 q281;cases e281
                                                replace p281:=eq_true p281;replace q281:=eq_true q281;try go_wp2
                                                have n0_:=qAm (Kd.R_drew HO_8.1);have n1_:=qAm (Kd.R_drew HO_10.1);have n2_:=qAm (Kd.R_drew HO_13.1);have n3_:=qAm (blk_drew BK253.1);have n4_:=qAm (blk_drew BK254.1);have n5_:=qAm (below_drew1 HB.1);clear HO_8 HO_10 HO_13 BK253 BK254 HB;have HO_8:=n0_;have HO_10:=n1_;have HO_13:=n2_;have BK253:=n3_;have BK254:=n4_;have HB:=n5_;clear n0_ n1_ n2_ n3_ n4_ n5_;obtain⟨Ao74,co74,eo74⟩:=Kd.R_slice HO_10.1
                                                (first|subst eo74|(injection eo74 with f1_ f2_ f3_;have f4_:=f1_.symm;have f5_:=f3_.symm;clear f1_ f2_ f3_;subst f4_;subst f5_))
                                                have p282:0≤(x126_4:Int):=of_decide_eq_true qB51;have q282:x126_4<(x10_4.length:Int):=of_decide_eq_true qB51;obtain⟨ad282,e282,hx282_0⟩:=Kd.at_int (Kd.R_reads' HO_10.1).2.2 x126_4 p282 q282;cases e282
                                                replace p282:=eq_true p282;replace q282:=eq_true q282;have p72:0≤(x126_4:Int):=of_decide_eq_true qB51;have q72:(x126_4:Int)<((x10_4.length:Int):Int):=of_decide_eq_true qB51;obtain⟨go72,co72,eo72,gb72,gl72,cl72,HG72⟩:=Kd.R_form HO_10.1 (by omega)
                                                (first|cases eo72|(injection eo72 with ea_ en_ ec_;(first|subst ea_|(injection ea_ with ea_;subst ea_));subst ec_;clear en_))
                                                have GB72:=qAm gb72;have GG72:=qAm HG72;clear gb72 gl72 HG72
                                                (first|simp only [add_plain] at hx282_0|skip)
                                                obtain⟨hx72_0,hf72_0⟩:=Kd.R_celln 0 HO_10.1 (x126_4:Int) p72 q72;replace p72:=eq_true p72;replace q72:=eq_true q72;have HP75:=Kd.R_putn HO_10.1 (x126_4:Int) (Int.tmod (wrap64 ((rd x10_4 x126_4)+(wrap64 ((rd x13_3 x126_4)*(Int.tmod (wrap64 ((rd l2 x49_2)*t280)) a1))))) a1);rw [← Ny283.1] at HP75;have HQ75:=qAm HP75;clear HP75;refine start_ (n:=14) (S:=fun w'=>w'.cell? ⟨gb253,0,none⟩=some (.int .i64 a1)∧w'.cell? ⟨go72,(x126_4).toNat,none⟩=some (.int .i64 (rd x10_4 x126_4))) (ds:=[13]) #[false,false,false,false,false,false,false,false,false,false,false,false,false,false] (by kernel_rfl) rfl rfl ⟨(blk_cell BK253.1 0).trans rfl,hx282_0⟩ (fun hHeld=>?_);refine with_tabW impl_CycloAtResidues.tab26 impl_CycloAtResidues.bits26 (fun HT_ HW_=>?_);generalize wr.drew=w73 at HO_8 HO_10 HO_13 BK253 BK254 HB GG72 HQ75 hf72_0 hx282_0 hx72_0 hHeld ⊢;refine pure_ (i:=0) (N:=some 131) (v:=?_) (a':=?_) #[true,false,false,false,false,false,false,false,false,false,false,false,false,false] rfl rfl (any_of HT_.1 (by kernel_rfl)) (fun _ _ _ h=>h) (Or.inl ⟨by rfl,?_⟩) ?_ ?_;rotate_left
                                                · intro w'
                                                  go_simp;with_reducible rfl
                                                rotate_left
                                                · simp only [Act.put,qSa,qSb,qSc,i64_w,i32_w]
                                                  rfl
                                                refine pure_ (i:=1) (N:=some 132) (v:=?_) (a':=?_) #[true,true,false,false,false,false,false,false,false,false,false,false,false,false] rfl rfl (any_of HT_.1 (by kernel_rfl)) (fun _ _ _ h=>h) (Or.inl ⟨by rfl,?_⟩) ?_ ?_;rotate_left
                                                · intro w'
                                                  go_simp;with_reducible rfl
                                                rotate_left
                                                · simp only [Act.put,qSa,qSb,qSc,i64_w,i32_w]
                                                  rfl
                                                refine pure_ (i:=2) (N:=some 133) (v:=?_) (a':=?_) #[true,true,true,false,false,false,false,false,false,false,false,false,false,false] rfl rfl (any_of HT_.1 (by kernel_rfl)) (fun _ _ _ h=>h) (Or.inl ⟨by rfl,?_⟩) ?_ ?_;rotate_left
                                                · intro w'
                                                  go_simp;with_reducible rfl
                                                rotate_left
                                                · simp only [Act.put,qSa,qSb,qSc,i64_w,i32_w]
                                                  rfl
                                                refine pure_ (i:=3) (N:=some 134) (v:=?_) (a':=?_) #[true,true,true,true,false,false,false,false,false,false,false,false,false,false] rfl rfl (any_of HT_.1 (by kernel_rfl)) (fun _ _ _ h=>h) (Or.inl ⟨by rfl,?_⟩) ?_ ?_;rotate_left
                                                · intro w'
                                                  go_simp;with_reducible rfl
                                                rotate_left
                                                · simp only [Act.put,qSa,qSb,qSc,i64_w,i32_w]
                                                  rfl
                                                refine pure_ (i:=4) (N:=some 135) (v:=?_) (a':=?_) #[true,true,true,true,true,false,false,false,false,false,false,false,false,false] rfl rfl (any_of HT_.1 (by kernel_rfl)) (fun _ _ _ h=>h) (Or.inl ⟨by rfl,?_⟩) ?_ ?_;rotate_left
                                                · intro w'
                                                  go_simp;with_reducible rfl
                                                rotate_left
                                                · simp only [Act.put,qSa,qSb,qSc,i64_w,i32_w]
                                                  rfl
                                                refine pure_ (i:=6) (N:=some 137) (v:=?_) (a':=?_) #[true,true,true,true,true,false,true,false,false,false,false,false,false,false] rfl rfl (any_of HT_.1 (by kernel_rfl)) (fun _ _ _ h=>h) (Or.inl ⟨by rfl,?_⟩) ?_ ?_;rotate_left
                                                · intro w'
                                                  go_simp;with_reducible rfl
                                                rotate_left
                                                · simp only [Act.put,qSa,qSb,qSc,i64_w,i32_w]
                                                  rfl
                                                refine pure_ (i:=7) (N:=some 138) (v:=?_) (a':=?_) #[true,true,true,true,true,false,true,true,false,false,false,false,false,false] rfl rfl (any_of HT_.1 (by kernel_rfl)) (fun _ _ _ h=>h) (Or.inl ⟨by rfl,?_⟩) ?_ ?_;rotate_left
                                                · intro w'
                                                  go_simp;with_reducible rfl
                                                rotate_left
                                                · simp only [Act.put,qSa,qSb,qSc,i64_w,i32_w]
                                                  rfl
                                                refine pure_ (i:=8) (N:=some 139) (v:=?_) (a':=?_) #[true,true,true,true,true,false,true,true,true,false,false,false,false,false] rfl rfl (any_of HT_.1 (by kernel_rfl)) (fun _ _ _ h=>h) (Or.inl ⟨by rfl,?_⟩) ?_ ?_;rotate_left
                                                · intro w'
                                                  go_simp;with_reducible rfl
                                                rotate_left
                                                · simp only [Act.put,qSa,qSb,qSc,i64_w,i32_w]
                                                  rfl
                                                refine take_ (i:=5) (N:=some 136) (v:=?_) (a':=?_) #[true,true,true,true,true,true,true,true,true,false,false,false,false,false] rfl rfl (take_ofW HT_.1 HW_.1 (by kernel_rfl)) (fun _ _ _ h=>h) (Or.inl ⟨by rfl,?_⟩) hHeld ?_ ?_;rotate_left
                                                · rintro w' ⟨s0,s1⟩
                                                  go_simp;with_reducible rfl
                                                rotate_left
                                                · simp only [Act.put,qSa,qSb,qSc,i64_w,i32_w]
                                                  rfl
                                                refine pure_ (i:=9) (N:=some 140) (v:=?_) (a':=?_) #[true,true,true,true,true,true,true,true,true,true,false,false,false,false] rfl rfl (any_of HT_.1 (by kernel_rfl)) (fun _ _ _ h=>h) (Or.inl ⟨by rfl,?_⟩) ?_ ?_;rotate_left
                                                · intro w'
                                                  go_simp;with_reducible rfl
                                                rotate_left
                                                · simp only [Act.put,qSa,qSb,qSc,i64_w,i32_w]
                                                  rfl
                                                refine take_ (i:=10) (N:=some 141) (v:=?_) (a':=?_) #[true,true,true,true,true,true,true,true,true,true,true,false,false,false] rfl rfl (take_ofW HT_.1 HW_.1 (by kernel_rfl)) (fun _ _ _ h=>h) (Or.inl ⟨by rfl,?_⟩) hHeld ?_ ?_;rotate_left
                                                · rintro w' ⟨s0,s1⟩
                                                  go_simp;with_reducible rfl
                                                rotate_left
                                                · simp only [Act.put,qSa,qSb,qSc,i64_w,i32_w]
                                                  rfl
                                                refine pure_ (i:=11) (N:=some 142) (v:=?_) (a':=?_) #[true,true,true,true,true,true,true,true,true,true,true,true,false,false] rfl rfl (any_of HT_.1 (by kernel_rfl)) (fun _ _ _ h=>h) (Or.inl ⟨by rfl,?_⟩) ?_ ?_;rotate_left
                                                · intro w'
                                                  go_simp;with_reducible rfl
                                                rotate_left
                                                · simp only [Act.put,qSa,qSb,qSc,i64_w,i32_w]
                                                  rfl
                                                refine pure_ (i:=12) (N:=some 143) (v:=?_) (a':=?_) #[true,true,true,true,true,true,true,true,true,true,true,true,true,false] rfl rfl (any_of HT_.1 (by kernel_rfl)) (fun _ _ _ h=>h) (Or.inl ⟨by rfl,?_⟩) ?_ ?_;rotate_left
                                                · intro w'
                                                  go_simp;with_reducible rfl
                                                rotate_left
                                                · simp only [Act.put,qSa,qSb,qSc,i64_w,i32_w]
                                                  rfl
                                                refine last_ (i:=13) (N:=none) #[true,true,true,true,true,true,true,true,true,true,true,true,true,true] rfl rfl (one_of HT_.1 (by kernel_rfl)) (by decide) (fun K hK=>?_);refine skip_ (w1:=?_) (by rfl) rfl ?_ ?_;rotate_left
                                                · go_simp
                                                  rfl
                                                refine hK.out _ _ ?_;clear hK K;refine done_ (done_of HT_.1 (by kernel_rfl)) ?_;try go_wp2
                                                (first|go_roundg k4|((try simp only [add_plain] at *);go_roundg k4))
                                                case measure=>have:=HJ4.1;have:=HK2.1;have:=HK3.1;have:=HK4.1;omega
                                                case rel=>exact⟨(y283),(wrap64 (x126_4+1)),qB52,H',⟨by have:=HJ4.1;have:=HK2.1;have:=HK3.1;have:=HK4.1;omega⟩,⟨by (try simp only [hl8_2]);(try simp only [hl8_3]);(with_reducible repeat(first|apply Kd.R_alloc|apply Kd.R_drewN|apply Kd.R_drew));exact Kd.R_mono (Kd.R_far (p:=⟨go72,(x126_4:Int).toNat,none⟩) (Kd.R_mono HO_8.1 (fun k_ hk=>(⟨hk,fun e_=>hk.1 (by rw [e_];rfl)⟩:_∧k_≠go72))) (fun _ hk=>hk.2) (.int .i64 (Int.tmod (wrap64 ((rd x10_4 x126_4)+(wrap64 ((rd x13_3 x126_4)*(Int.tmod (wrap64 ((rd l2 x49_2)*t280)) a1))))) a1))) (fun _ hk=>⟨hk.1.1,⟨hk.1.2.1,hk.1.2.2⟩⟩)⟩,⟨by (try simp only [hl8_2]);(try simp only [hl8_3]);(with_reducible repeat(first|apply Kd.R_alloc|apply Kd.R_drewN|apply Kd.R_drew));exact HQ75.1⟩,⟨by (try simp only [hl8_2]);(try simp only [hl8_3]);(with_reducible repeat(first|apply Kd.R_alloc|apply Kd.R_drewN|apply Kd.R_drew));exact Kd.R_mono (Kd.R_far (p:=⟨go72,(x126_4:Int).toNat,none⟩) (Kd.R_mono HO_13.1 (fun k_ hk=>(⟨hk,fun e_=>hk.2.1 (by rw [e_];rfl)⟩:_∧k_≠go72))) (fun _ hk=>hk.2) (.int .i64 (Int.tmod (wrap64 ((rd x10_4 x126_4)+(wrap64 ((rd x13_3 x126_4)*(Int.tmod (wrap64 ((rd l2 x49_2)*t280)) a1))))) a1))) (fun _ hk=>⟨hk.1.1,⟨hk.1.2.1,hk.1.2.2⟩⟩)⟩,⟨by (try simp only [hl8_2]);(try simp only [hl8_3]);(with_reducible repeat(first|refine blk_drewN ?_ _|refine blk_drew ?_|refine blk_alloc ?_ _));refine blk_far ?_ (by have h_:=Kd.R_away HO_10.1 (fun _ hk=>hk.2.2);intro e_;exact h_ (by rw [e_];rfl)) _;(with_reducible repeat(first|refine blk_drewN ?_ _|refine blk_drew ?_|refine blk_alloc ?_ _));exact BK253.1⟩,⟨by (try simp only [hl8_2]);(try simp only [hl8_3]);(with_reducible repeat(first|refine blk_drewN ?_ _|refine blk_drew ?_|refine blk_alloc ?_ _));refine blk_far ?_ (by have h_:=Kd.R_ne HO_10.1 BK254.1 (by decide);intro e_;exact h_ (by rw [e_];rfl)) _;(with_reducible repeat(first|refine blk_drewN ?_ _|refine blk_drew ?_|refine blk_alloc ?_ _));exact BK254.1⟩,⟨by repeat(first|(with_reducible first|exact HB.1|apply below_alloc|apply pw_below_drewN|apply below_drew1|refine below_set ?_ GB72.1|refine below_set ?_ GE253.1|refine below_set ?_ GE254.1)|exact HB.1)⟩⟩
                                            · rw [if_neg c70] at H
                                              exact absurd H (by simp)
                                          · rw [if_neg c69] at H
                                            exact absurd H (by simp)
                                        · rw [if_neg c68] at H
                                          exact absurd H (by simp)
                                      · rw [if_neg c67] at H
                                        have c67b0:decide (x126_4<(x13_3.length:Int))=false:=decide_eq_false c67;have c67b0_0:=c67b0
                                        (try rw [hl8_2] at c67b0_0)
                                        have c67b0_1:=c67b0
                                        (try rw [hl8_3] at c67b0_1)
                                        clear c67;have H':=qAm H;clear H;go_wp2
                                        (try simp only [← hl8_2,← hl8_3])
                                        (first|go_roundg k4|((try simp only [add_plain] at *);go_roundg k4))
                                        case measure=>have:=HJ4.1;have:=HK2.1;have:=HK3.1;have:=HK4.1;omega
                                        case rel=>exact⟨(x8_3),(x10_4),(wrap64 (x49_2+1)),qB52,H',⟨by have:=HJ4.1;have:=HK2.1;have:=HK3.1;have:=HK4.1;omega⟩,⟨by (try simp only [hl8_2]);(try simp only [hl8_3]);(with_reducible repeat(first|apply Kd.R_alloc|apply Kd.R_drewN|apply Kd.R_drew));exact Kd.R_mono HO_8.1 (fun _ hk=>⟨hk.1,hk.2.2⟩)⟩,⟨by (try simp only [hl8_2]);(try simp only [hl8_3]);(with_reducible repeat(first|apply Kd.R_alloc|apply Kd.R_drewN|apply Kd.R_drew));exact Kd.R_mono HO_10.1 (fun _ hk=>⟨hk.1,hk.2.2⟩)⟩,⟨by (try simp only [hl8_2]);(try simp only [hl8_3]);(with_reducible repeat(first|refine blk_drewN ?_ _|refine blk_drew ?_|refine blk_alloc ?_ _));exact BK253.1⟩,⟨by (try simp only [hl8_2]);(try simp only [hl8_3]);(with_reducible repeat(first|refine blk_drewN ?_ _|refine blk_drew ?_|refine blk_alloc ?_ _));exact BK254.1⟩,⟨by repeat(first|(with_reducible first|exact HB.1|apply below_alloc|apply pw_below_drewN|apply below_drew1|refine below_set ?_ GE253.1|refine below_set ?_ GE254.1)|exact HB.1)⟩⟩
                              · rw [if_neg c62] at H
                                exact absurd H (by simp)
                            · rw [if_neg c61] at H
                              exact absurd H (by simp)
                    · rw [if_neg c28] at H
                      exact absurd H (by simp)
                  · rw [if_neg c27] at H
                    exact absurd H (by simp)
                · rw [if_neg c26] at H
                  have c26b0:decide (x49_2<(t255.length:Int))=false:=decide_eq_false c26;have c26b0_0:=c26b0
                  (try rw [hl8_2] at c26b0_0)
                  clear c26;simp only [Option.some.injEq,Prod.mk.injEq] at H;obtain⟨rfl,rfl,rfl⟩:=H;obtain⟨Ao76,co76,eo76⟩:=Kd.R_slice HO_10.1;subst eo76;have hnb77:=NB254_253.1;have hnc77:=NB253_254.1;have hcz78_0:wr.cell? ⟨gb254,0,none⟩=some (.int .i64 0):=(blk_cell BK254.1 0).trans rfl;have hcz78_1:wr.cell? ⟨gb254,1,none⟩=some (.slice none 0 0):=(blk_cell BK254.1 1).trans rfl;have hfz78_0:=blk_frozen BK254.1 0;have hfz78_1:=blk_frozen BK254.1 1;go_wp2;refine bodyPost_ret (results_ct rfl _ _ gb254 28 #[.int .i64 a0,.slice Ao76 x10_2.length co76] (0,0) _ rfl (by (with_reducible repeat(first|refine blk_drewN ?_ _|refine blk_drew ?_|refine blk_alloc ?_ _));refine blk_put (cs:=#[.int .i64 a0,.slice none 0 0]) ?_ 1 _ rfl;(with_reducible repeat(first|refine blk_drewN ?_ _|refine blk_drew ?_|refine blk_alloc ?_ _));refine blk_put (cs:=#[.int .i64 0,.slice none 0 0]) ?_ 0 _ rfl;(with_reducible repeat(first|refine blk_drewN ?_ _|refine blk_drew ?_|refine blk_alloc ?_ _));exact BK254.1) Try.underlying28 rfl (by kernel_rfl)) rfl ?_;exact⟨_,by first|rfl|(simp [errW_none,errW_some] <;> rfl)|(simp [*,errW_none,errW_some] <;> rfl),by (with_reducible repeat(first|apply Kd.R_alloc|apply Kd.R_drewN|apply Kd.R_drew));exact Kd.R_mono (Kd.R_far (p:=⟨gb254,1,none⟩) (Kd.R_far (p:=⟨gb254,0,none⟩) (Kd.R_types HO_10.1 BK254.1 (by decide)) (fun _ hk=>hk.2) (.int .i64 a0)) (fun _ hk=>hk.2) (.slice Ao76 x10_2.length co76)) (fun _ hk=>trivial),by repeat(first|(with_reducible first|exact HB.1|apply below_alloc|apply pw_below_drewN|apply below_drew1|refine below_set ?_ GE253.1|refine below_set ?_ GE254.1)|exact HB.1)⟩
          · rw [if_neg c22] at H
            exact absurd H (by simp)
        · rw [if_neg c21] at H
          exact absurd H (by simp)

end Go.Proofs.Ytefhabkikaadiaa.PFnExactCycloAtResidues
