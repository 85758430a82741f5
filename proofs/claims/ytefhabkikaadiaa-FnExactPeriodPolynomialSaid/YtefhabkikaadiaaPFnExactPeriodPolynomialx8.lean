/- The functions that the law reaches, as plain functions, each with the proof that the program comes to it; no condition. Written by a program of this session (wip/mp.py) over the printing of the kit; what is marked HAND is told by hand. -/
import Derived.Test.YtefhabkikaadiaaPFnExactPeriodPolynomialx0
import Derived.Test.YtefhabkikaadiaaPFnExactPeriodPolynomialx5
import Derived.Test.YtefhabkikaadiaaPFnExactPeriodPolynomialx7
namespace Go.Proofs.Ytefhabkikaadiaa.PFnExactPeriodPolynomial
open Go.RowKit Go.Proofs.YtefhabkikaadiaaW.PrintWords Go.Proofs.YtefhabkikaadiaaW.PrintLast Go.Proofs.YtefhabkikaadiaaW.PrintMore
attribute [local go_sem] max2_int min2_int max_two min_two max_three min_three max_four min_four   -- for this text's walks alone
set_option linter.unusedVariables false
set_option linter.unusedSimpArgs false

/-! ### impl_PeriodPolynomial: function 28 -/
-- HAND
/-- A row behind 'copy(row, other)'. -/
def hpp_cp (a b:List Int):List Int:=b.take (min b.length a.length) ++ a.drop (min b.length a.length)
theorem hpp_size:(Try.prog.info? 2).map (·.size)=some 1:=by kernel_rfl
theorem hpp_cell (W:World) (g:Nat) (a:Addr) (h:a.block<g):({ W with heap:=W.heap.extract 0 g }:World).cell? a=W.cell? a:=by
  apply World.cell?_of_block
  show(W.heap.extract 0 g)[a.block]? =W.heap[a.block]?
  rw [Array.getElem?_extract]
  by_cases c:a.block<min g W.heap.size - 0
  · rw [if_pos c,Nat.zero_add]
  · rw [if_neg c]
    symm
    rw [Array.getElem?_eq_none]
    omega
theorem hpp_copy {W:World} {base:Nat} {ok:Nat→Prop} {v:Value} {xs ys:List Int} {A:Option Addr} {m c:Nat} (HO:Kd.R (Kd.int .i64) 2 W base ok v xs) (HR:Kd.C (Kd.int .i64) W A m ys):
    ∃w1,(∀ty,(Builtin.copy_ #[22,22] ty #[v,.slice A m c]).run Try.prog W=.ok (goInt ((min m xs.length:Nat):Int)) w1)∧Kd.R (Kd.int .i64) 2 w1 base ok v (hpp_cp xs ys)∧W.grownBy w1 v.ownBlock:=by
  have hR:=Kd.reads_of_C (d:=(0:Int)) HR;have hm:ys.length=m:=hR.1;have hown:=Kd.own_of_R HO;unfold hpp_cp;rw [hm]
  by_cases h0:min m xs.length=0
  · obtain⟨A',c',rfl⟩:=own_slice hown
    refine⟨W,fun ty=>by rw [h0];exact run_copy_none W _ _ ty 2 A' A xs.length c' m c Try.underlying22 hpp_size h0,?_,World.grownBy.refl W _⟩;rw [h0,List.take_zero,List.drop_zero,List.nil_append];exact HO
  · obtain⟨ad,rfl,hc⟩:=hR.2.2 (by omega)
    rcases hown.2 with ⟨_,hx⟩|⟨g,cap,cur,hv,hb,hh,h1,h2,h3,h4⟩
    · omega
    subst hv;obtain⟨q,hq⟩:∃q,q=min m xs.length:=⟨_,rfl⟩
    rw [← hq];have hl:(encs (Value.int .i64) (ys.take q)).length=q:=by rw [encs_length,List.length_take];omega
    have hsrc:∀j u,(encs (Value.int .i64) (ys.take q))[j]? =some u→W.cell? (ad.add j)=some u:=by
      intro j u hu;have hj:j<q:=by
        rcases Nat.lt_or_ge j q with h|h
        · exact h
        · rw [List.getElem?_eq_none (by rw [hl];exact h)] at hu;cases hu
      rw [hc j (by omega),← hu]
      simp [encs,List.getElem?_take,hj,List.getD_eq_getElem?_getD,List.getElem?_eq_getElem (show j<ys.length by omega)]
    have hrun:=fun ty=>run_copy_cells (P:=Try.prog) W 22 22 ty 2 g 0 xs.length cap ad m c (encs (Value.int .i64) (ys.take q)) Try.underlying22 hpp_size (by rw [hl,hq]) hsrc
      (fun j hj=>by rw [cell_of_row W g _ cur 2 (0,0) hh];rw [hl] at hj;simp;omega) (fun j _=>blk_frozen hh _) (by intro u hu;obtain⟨z,_,rfl⟩:=List.mem_map.mp (show u∈List.map (Value.int .i64) (ys.take q) from hu);rfl)
    obtain⟨cur',k3,k4,k5⟩:=setCells_row (encs (Value.int .i64) (ys.take q)) 0 W cur hh (by rw [hl];omega);obtain⟨s1,s2,s3,s4⟩:=setCells_same g (encs (Value.int .i64) (ys.take q)) 0 W;have hln:(ys.take q ++ xs.drop q).length=xs.length:=by rw [List.length_append,List.length_take,List.length_drop];omega
    refine⟨_,fun ty=>by rw [hrun ty,hl],Kd.R_of_own ?_ HO.1,⟨s1,s2,s3,by rw [s4];exact Nat.le_refl _,fun k _ hk=>setCells_far _ _ k (fun he=>hk (by rw [he];rfl))⟩⟩;rw [hln];refine⟨by rw [encs_length,hln,Nat.mul_one],.inr ⟨g,cap,cur',rfl,hb,k3,h1,h2,by rw [k4,h3],?_⟩⟩;have htk:cur.toList.take xs.length=encs (Value.int .i64) xs:=by rw [← h4,Nat.mul_one]
    have hd:encs (Value.int .i64) (xs.drop q)=(encs (Value.int .i64) xs).drop q:=by simp [encs,List.map_drop]
    rw [k5,List.take_zero,List.nil_append,hl,Nat.zero_add,encs_append,Nat.mul_one,List.take_append,hl,List.take_of_length_le (by rw [hl];omega),hd,← htk,List.drop_take]
theorem hpp_here (k g cq c1 c2:Nat) (p e f:Int) (cls l1 l2 r:List Int) (Aq A1 A2:Option Addr) (W:World) (hG:W.heap[g]? =some (.cells #[.int .i64 p,.int .i64 e,.int .i64 f,.slice Aq cls.length cq] 97 (0,0)))
    (hU:∀k_,(.slice Aq cls.length cq:Value).ownBlock=some k_→k_<g) (hC:Kd.C (Kd.int .i64) W Aq cls.length cls)
    (hr1:Kd.C (Kd.int .i64) W A1 l1.length l1) (hc1:l1.length≤c1) (hf1:∀ad,A1=some ad→0<l1.length→ad.block≠g) (hr2:Kd.C (Kd.int .i64) W A2 l2.length l2) (hc2:l2.length≤c2) (hf2:∀ad,A2=some ad→0<l2.length→ad.block≠g)
    (h:impl_ptimes.f k p e f cls l1 l2=some r):
    Calls Try.prog 82 #[.pointer (some ⟨g,0,none⟩),.slice A1 l1.length c1,.slice A2 l2.length c2] W fun e w'=>∃v0_:Value,e=.returned v0_∧Kd.R (Kd.int .i64) 2 w' W.heap.size (fun _=>True) v0_ r∧Below W.heap.size W w':=by
  unfold impl_ptimes.f at h;obtain⟨⟨r1,d2,d3,d4⟩,h1,h2⟩:=qOb h;obtain rfl:r1=r:=Option.some.inj h2;have hlt:=blk_lt hG;have hsz:({ W with heap:=W.heap.extract 0 g }:World).heap.size=g:=by show(W.heap.extract 0 g).size=g;rw [Array.size_extract];omega
  have hB:Below ({ W with heap:=W.heap.extract 0 g }:World).heap.size { W with heap:=W.heap.extract 0 g } W:=by
    rw [hsz];refine⟨rfl,rfl,rfl,by rw [hsz];omega,fun i hi=>?_⟩
    show W.heap[i]? =(W.heap.extract 0 g)[i]?
    rw [Array.getElem?_extract,if_pos (by omega),Nat.zero_add]
  have hC0:Kd.C (Kd.int .i64) { W with heap:=W.heap.extract 0 g } Aq cls.length cls:=by
    have hR:=Kd.reads_of_C (d:=(0:Int)) hC;refine Kd.C_of_reads (d:=(0:Int)) ⟨hR.1,hR.2.1,fun hn=>?_⟩;obtain⟨ad,ea,hc⟩:=hR.2.2 hn;refine⟨ad,ea,fun j hj=>?_⟩;have hb:ad.block<g:=hU ad.block (by rw [ea];rfl);rw [hpp_cell W g _ (by rw [add_block];exact hb)];exact hc j hj
  refine(impl_periods_times.calls k g p e f cls A1 c1 l1 A2 c2 l2 r1 d2 d3 d4 _ W ⟨Aq,cq,hG,by rw [hsz];exact Nat.le_refl _,hC0⟩ hB hr1 hc1 hf1 hr2 hc2 hf2 h1).mono ?_;rintro e w' ⟨v,rfl,ho,hiS,hb,hk⟩;refine⟨v,rfl,ho,⟨hb.os,hb.tape,hb.output,hk.k.1,fun i hi=>?_⟩⟩
  by_cases c:i=g
  · subst c;exact hk.b hi (by simp)
  · exact hk.k.2 i hi c (by simp)
mutual
def impl_PeriodPolynomial.l0:Nat→Int→List Int→Int→Int→Int→Int→Int→List Int→Option (List Int×Int)
  |0,_,_,_,_,_,_,_,_=>none
  |k+1,x1,x8,x32,x33,x271000,x271001,x271002,x271003=>if x33<x32 then (if 0≤x33 then (if x33<(x8.length:Int) then (impl_PeriodPolynomial.l0 k x1 (x8.set (x33:Int).toNat (-1)) x32 (wrap64 (x33+1)) x271000 x271001 x271002 x271003) else (none)) else (none)) else (impl_PeriodPolynomial.l1 k x1 (([x8]:List (List Int))) x1 0 x271000 x271001 x271002 x271003)
def impl_PeriodPolynomial.l1:Nat→Int→List (List Int)→Int→Int→Int→Int→Int→List Int→Option (List Int×Int)
  |0,_,_,_,_,_,_,_,_=>none
  |k+1,x1,x10,x42,x43,x271000,x271001,x271002,x271003=>if x43<x42 then (if 0≤x1 then (if (x1:Int).toNat≤35184372088832 then ((some (List.replicate (x1:Int).toNat 0:List Int)).bind fun y278=>(if 0≤x43 then (if x43<(y278.length:Int) then (impl_PeriodPolynomial.l2 k x1 x10 (y278.set (x43:Int).toNat 1) (([]:List (List Int))) x42 x43 (wrap64 ((x10.length:Int)+1)) 0 x271000 x271001 x271002 x271003) else (none)) else (none))) else (none)) else (none)) else (impl_PeriodPolynomial.l4 k x10 (([]:List Int)) (x10.length:Int) 0)
def impl_PeriodPolynomial.l2:Nat→Int→List (List Int)→List Int→List (List Int)→Int→Int→Int→Int→Int→Int→Int→List Int→Option (List Int×Int)
  |0,_,_,_,_,_,_,_,_,_,_,_,_=>none
  |k+1,x1,x10,x12,x13,x42,x43,x54,x55,x271000,x271001,x271002,x271003=>if x55<x54 then (if 0≤x1 then (if (x1:Int).toNat≤35184372088832 then ((some (List.replicate (x1:Int).toNat 0:List Int)).bind fun y285=>(if x55 > 0 then (if 0≤(wrap64 (x55 - 1)) then (if (wrap64 (x55 - 1))<(x10.length:Int) then (if y285.length+(rd_L1 x10 (wrap64 (x55 - 1))).length<17592186044416 then (impl_PeriodPolynomial.j3 k x1 x10 x12 x13 x55 (hpp_cp y285 (rd_L1 x10 (wrap64 (x55 - 1)))) x42 x43 x54 x55 x271000 x271001 x271002 x271003) else (none)) else (none)) else (none)) else (impl_PeriodPolynomial.j3 k x1 x10 x12 x13 x55 y285 x42 x43 x54 x55 x271000 x271001 x271002 x271003))) else (none)) else (none)) else (impl_PeriodPolynomial.l1 k x1 x13 x42 (wrap64 (x43+1)) x271000 x271001 x271002 x271003)
def impl_PeriodPolynomial.j3:Nat→Int→List (List Int)→List Int→List (List Int)→Int→List Int→Int→Int→Int→Int→Int→Int→Int→List Int→Option (List Int×Int)
  |0,_,_,_,_,_,_,_,_,_,_,_,_,_,_=>none
  |k+1,x1,x10,x12,x13,x14,x15,x42,x43,x54,x55,x271000,x271001,x271002,x271003=>if x14<(x10.length:Int) then (if 0≤x14 then ((impl_ptimes.f k x271000 x271001 x271002 x271003 x12 (rd_L1 x10 x14)).bind fun t293=>(impl_PeriodPolynomial.l3 k x1 x10 x12 x13 x15 x42 x43 x54 x55 t293 (t293.length:Int) 0 x271000 x271001 x271002 x271003)) else (none)) else (if x13.length<5864062014805 then (impl_PeriodPolynomial.l2 k x1 x10 x12 (x13 ++ [x15]) x42 x43 x54 (wrap64 (x55+1)) x271000 x271001 x271002 x271003) else (none))
def impl_PeriodPolynomial.l3:Nat→Int→List (List Int)→List Int→List (List Int)→List Int→Int→Int→Int→Int→List Int→Int→Int→Int→Int→Int→List Int→Option (List Int×Int)
  |0,_,_,_,_,_,_,_,_,_,_,_,_,_,_,_,_=>none
  |k+1,x1,x10,x12,x13,x15,x42,x43,x54,x55,x78,x79,x80,x271000,x271001,x271002,x271003=>if x80<x79 then (if 0≤x80 then (if x80<(x78.length:Int) then (if x80<(x15.length:Int) then (impl_PeriodPolynomial.l3 k x1 x10 x12 x13 (x15.set (x80:Int).toNat (wrap64 ((rd x15 x80) - (rd x78 x80)))) x42 x43 x54 x55 x78 x79 (wrap64 (x80+1)) x271000 x271001 x271002 x271003) else (none)) else (none)) else (none)) else (if x13.length<5864062014805 then (impl_PeriodPolynomial.l2 k x1 x10 x12 (x13 ++ [x15]) x42 x43 x54 (wrap64 (x55+1)) x271000 x271001 x271002 x271003) else (none))
def impl_PeriodPolynomial.l4:Nat→List (List Int)→List Int→Int→Int→Option (List Int×Int)
  |0,_,_,_,_=>none
  |k+1,x10,x18,x102,x103=>if x103<x102 then (if 0≤x103 then (if x103<(x10.length:Int) then (if 0<((rd_L1 x10 x103).length:Int) then (if x18.length<17592186044416 then (impl_PeriodPolynomial.l4 k x10 (x18 ++ [wrap64 (-(rd (rd_L1 x10 x103) 0))]) x102 (wrap64 (x103+1))) else (none)) else (none)) else (none)) else (none)) else (some (x18,0))
end
def impl_PeriodPolynomial.f (k:Nat) (a0:Int) (a1:Int):Option (List Int×Int):=(impl_periodsOf.f k a0 a1).bind fun bt263=>(if bt263.2.2.2.2=true then (if 0≤a1 then (if (a1:Int).toNat≤35184372088832 then ((some (List.replicate (a1:Int).toNat 0:List Int)).bind fun y271=>(impl_PeriodPolynomial.l0 k a1 y271 (y271.length:Int) 0 bt263.1 bt263.2.1 bt263.2.2.1 bt263.2.2.2.1)) else (none)) else (none)) else (some (([]:List Int),2)))
theorem impl_PeriodPolynomial.mono_l:∀k,(∀y0 y1 y2 y3 y4 y5 y6 y7,LeO (impl_PeriodPolynomial.l0 k y0 y1 y2 y3 y4 y5 y6 y7) (impl_PeriodPolynomial.l0 (k+1) y0 y1 y2 y3 y4 y5 y6 y7))∧(∀y0 y1 y2 y3 y4 y5 y6 y7,LeO (impl_PeriodPolynomial.l1 k y0 y1 y2 y3 y4 y5 y6 y7) (impl_PeriodPolynomial.l1 (k+1) y0 y1 y2 y3 y4 y5 y6 y7))∧(∀y0 y1 y2 y3 y4 y5 y6 y7 y8 y9 y10 y11,LeO (impl_PeriodPolynomial.l2 k y0 y1 y2 y3 y4 y5 y6 y7 y8 y9 y10 y11) (impl_PeriodPolynomial.l2 (k+1) y0 y1 y2 y3 y4 y5 y6 y7 y8 y9 y10 y11))∧(∀y0 y1 y2 y3 y4 y5 y6 y7 y8 y9 y10 y11 y12 y13,LeO (impl_PeriodPolynomial.j3 k y0 y1 y2 y3 y4 y5 y6 y7 y8 y9 y10 y11 y12 y13) (impl_PeriodPolynomial.j3 (k+1) y0 y1 y2 y3 y4 y5 y6 y7 y8 y9 y10 y11 y12 y13))∧(∀y0 y1 y2 y3 y4 y5 y6 y7 y8 y9 y10 y11 y12 y13 y14 y15,LeO (impl_PeriodPolynomial.l3 k y0 y1 y2 y3 y4 y5 y6 y7 y8 y9 y10 y11 y12 y13 y14 y15) (impl_PeriodPolynomial.l3 (k+1) y0 y1 y2 y3 y4 y5 y6 y7 y8 y9 y10 y11 y12 y13 y14 y15))∧(∀y0 y1 y2 y3,LeO (impl_PeriodPolynomial.l4 k y0 y1 y2 y3) (impl_PeriodPolynomial.l4 (k+1) y0 y1 y2 y3))
  |0=>⟨fun _ _ _ _ _ _ _ _ r h=>by simp [impl_PeriodPolynomial.l0] at h,fun _ _ _ _ _ _ _ _ r h=>by simp [impl_PeriodPolynomial.l1] at h,fun _ _ _ _ _ _ _ _ _ _ _ _ r h=>by simp [impl_PeriodPolynomial.l2] at h,fun _ _ _ _ _ _ _ _ _ _ _ _ _ _ r h=>by simp [impl_PeriodPolynomial.j3] at h,fun _ _ _ _ _ _ _ _ _ _ _ _ _ _ _ _ r h=>by simp [impl_PeriodPolynomial.l3] at h,fun _ _ _ _ r h=>by simp [impl_PeriodPolynomial.l4] at h⟩
  |k+1=>by
    obtain⟨ih0,ih1,ih2,ih3,ih4,ih5⟩:=impl_PeriodPolynomial.mono_l k;refine⟨?_,?_,?_,?_,?_,?_⟩
    · intro y0 y1 y2 y3 y4 y5 y6 y7
      unfold impl_PeriodPolynomial.l0;repeat' first
      |(with_reducible exact ih0 _ _ _ _ _ _ _ _)
      |(with_reducible exact ih1 _ _ _ _ _ _ _ _)
      |(with_reducible exact ih2 _ _ _ _ _ _ _ _ _ _ _ _)
      |(with_reducible exact ih3 _ _ _ _ _ _ _ _ _ _ _ _ _ _)
      |(with_reducible exact ih4 _ _ _ _ _ _ _ _ _ _ _ _ _ _ _ _)
      |(with_reducible exact ih5 _ _ _ _)
      |(with_reducible exact impl_periodsOf.mono _ _ _)
      |(with_reducible exact impl_ptimes.mono _ _ _ _ _ _ _)
      |(with_reducible exact LeO.refl _)
      |(with_reducible exact LeO.none _)
      |(with_reducible refine LeO.ite ?_ ?_)
      |(with_reducible refine LeO.bind ?_ (fun _=>?_))
      |exact ih0 _ _ _ _ _ _ _ _
      |exact ih1 _ _ _ _ _ _ _ _
      |exact ih2 _ _ _ _ _ _ _ _ _ _ _ _
      |exact ih3 _ _ _ _ _ _ _ _ _ _ _ _ _ _
      |exact ih4 _ _ _ _ _ _ _ _ _ _ _ _ _ _ _ _
      |exact ih5 _ _ _ _
      |exact impl_periodsOf.mono _ _ _
      |exact impl_ptimes.mono _ _ _ _ _ _ _
      |exact LeO.none _
      |refine LeO.ite ?_ ?_
      |refine LeO.bind ?_ (fun _=>?_)
    · intro y0 y1 y2 y3 y4 y5 y6 y7
      unfold impl_PeriodPolynomial.l1;repeat' first
      |(with_reducible exact ih0 _ _ _ _ _ _ _ _)
      |(with_reducible exact ih1 _ _ _ _ _ _ _ _)
      |(with_reducible exact ih2 _ _ _ _ _ _ _ _ _ _ _ _)
      |(with_reducible exact ih3 _ _ _ _ _ _ _ _ _ _ _ _ _ _)
      |(with_reducible exact ih4 _ _ _ _ _ _ _ _ _ _ _ _ _ _ _ _)
      |(with_reducible exact ih5 _ _ _ _)
      |(with_reducible exact impl_periodsOf.mono _ _ _)
      |(with_reducible exact impl_ptimes.mono _ _ _ _ _ _ _)
      |(with_reducible exact LeO.refl _)
      |(with_reducible exact LeO.none _)
      |(with_reducible refine LeO.ite ?_ ?_)
      |(with_reducible refine LeO.bind ?_ (fun _=>?_))
      |exact ih0 _ _ _ _ _ _ _ _
      |exact ih1 _ _ _ _ _ _ _ _
      |exact ih2 _ _ _ _ _ _ _ _ _ _ _ _
      |exact ih3 _ _ _ _ _ _ _ _ _ _ _ _ _ _
      |exact ih4 _ _ _ _ _ _ _ _ _ _ _ _ _ _ _ _
      |exact ih5 _ _ _ _
      |exact impl_periodsOf.mono _ _ _
      |exact impl_ptimes.mono _ _ _ _ _ _ _
      |exact LeO.none _
      |refine LeO.ite ?_ ?_
      |refine LeO.bind ?_ (fun _=>?_)
    · intro y0 y1 y2 y3 y4 y5 y6 y7 y8 y9 y10 y11
      unfold impl_PeriodPolynomial.l2;repeat' first
      |(with_reducible exact ih0 _ _ _ _ _ _ _ _)
      |(with_reducible exact ih1 _ _ _ _ _ _ _ _)
      |(with_reducible exact ih2 _ _ _ _ _ _ _ _ _ _ _ _)
      |(with_reducible exact ih3 _ _ _ _ _ _ _ _ _ _ _ _ _ _)
      |(with_reducible exact ih4 _ _ _ _ _ _ _ _ _ _ _ _ _ _ _ _)
      |(with_reducible exact ih5 _ _ _ _)
      |(with_reducible exact impl_periodsOf.mono _ _ _)
      |(with_reducible exact impl_ptimes.mono _ _ _ _ _ _ _)
      |(with_reducible exact LeO.refl _)
      |(with_reducible exact LeO.none _)
      |(with_reducible refine LeO.ite ?_ ?_)
      |(with_reducible refine LeO.bind ?_ (fun _=>?_))
      |exact ih0 _ _ _ _ _ _ _ _
      |exact ih1 _ _ _ _ _ _ _ _
      |exact ih2 _ _ _ _ _ _ _ _ _ _ _ _
      |exact ih3 _ _ _ _ _ _ _ _ _ _ _ _ _ _
      |exact ih4 _ _ _ _ _ _ _ _ _ _ _ _ _ _ _ _
      |exact ih5 _ _ _ _
      |exact impl_periodsOf.mono _ _ _
      |exact impl_ptimes.mono _ _ _ _ _ _ _
      |exact LeO.none _
      |refine LeO.ite ?_ ?_
      |refine LeO.bind ?_ (fun _=>?_)
    · intro y0 y1 y2 y3 y4 y5 y6 y7 y8 y9 y10 y11 y12 y13
      unfold impl_PeriodPolynomial.j3;repeat' first
      |(with_reducible exact ih0 _ _ _ _ _ _ _ _)
      |(with_reducible exact ih1 _ _ _ _ _ _ _ _)
      |(with_reducible exact ih2 _ _ _ _ _ _ _ _ _ _ _ _)
      |(with_reducible exact ih3 _ _ _ _ _ _ _ _ _ _ _ _ _ _)
      |(with_reducible exact ih4 _ _ _ _ _ _ _ _ _ _ _ _ _ _ _ _)
      |(with_reducible exact ih5 _ _ _ _)
      |(with_reducible exact impl_periodsOf.mono _ _ _)
      |(with_reducible exact impl_ptimes.mono _ _ _ _ _ _ _)
      |(with_reducible exact LeO.refl _)
      |(with_reducible exact LeO.none _)
      |(with_reducible refine LeO.ite ?_ ?_)
      |(with_reducible refine LeO.bind ?_ (fun _=>?_))
      |exact ih0 _ _ _ _ _ _ _ _
      |exact ih1 _ _ _ _ _ _ _ _
      |exact ih2 _ _ _ _ _ _ _ _ _ _ _ _
      |exact ih3 _ _ _ _ _ _ _ _ _ _ _ _ _ _
      |exact ih4 _ _ _ _ _ _ _ _ _ _ _ _ _ _ _ _
      |exact ih5 _ _ _ _
      |exact impl_periodsOf.mono _ _ _
      |exact impl_ptimes.mono _ _ _ _ _ _ _
      |exact LeO.none _
      |refine LeO.ite ?_ ?_
      |refine LeO.bind ?_ (fun _=>?_)
    · intro y0 y1 y2 y3 y4 y5 y6 y7 y8 y9 y10 y11 y12 y13 y14 y15
      unfold impl_PeriodPolynomial.l3;repeat' first
      |(with_reducible exact ih0 _ _ _ _ _ _ _ _)
      |(with_reducible exact ih1 _ _ _ _ _ _ _ _)
      |(with_reducible exact ih2 _ _ _ _ _ _ _ _ _ _ _ _)
      |(with_reducible exact ih3 _ _ _ _ _ _ _ _ _ _ _ _ _ _)
      |(with_reducible exact ih4 _ _ _ _ _ _ _ _ _ _ _ _ _ _ _ _)
      |(with_reducible exact ih5 _ _ _ _)
      |(with_reducible exact impl_periodsOf.mono _ _ _)
      |(with_reducible exact impl_ptimes.mono _ _ _ _ _ _ _)
      |(with_reducible exact LeO.refl _)
      |(with_reducible exact LeO.none _)
      |(with_reducible refine LeO.ite ?_ ?_)
      |(with_reducible refine LeO.bind ?_ (fun _=>?_))
      |exact ih0 _ _ _ _ _ _ _ _
      |exact ih1 _ _ _ _ _ _ _ _
      |exact ih2 _ _ _ _ _ _ _ _ _ _ _ _
      |exact ih3 _ _ _ _ _ _ _ _ _ _ _ _ _ _
      |exact ih4 _ _ _ _ _ _ _ _ _ _ _ _ _ _ _ _
      |exact ih5 _ _ _ _
      |exact impl_periodsOf.mono _ _ _
      |exact impl_ptimes.mono _ _ _ _ _ _ _
      |exact LeO.none _
      |refine LeO.ite ?_ ?_
      |refine LeO.bind ?_ (fun _=>?_)
    · intro y0 y1 y2 y3
      unfold impl_PeriodPolynomial.l4;repeat' first
      |(with_reducible exact ih0 _ _ _ _ _ _ _ _)
      |(with_reducible exact ih1 _ _ _ _ _ _ _ _)
      |(with_reducible exact ih2 _ _ _ _ _ _ _ _ _ _ _ _)
      |(with_reducible exact ih3 _ _ _ _ _ _ _ _ _ _ _ _ _ _)
      |(with_reducible exact ih4 _ _ _ _ _ _ _ _ _ _ _ _ _ _ _ _)
      |(with_reducible exact ih5 _ _ _ _)
      |(with_reducible exact impl_periodsOf.mono _ _ _)
      |(with_reducible exact impl_ptimes.mono _ _ _ _ _ _ _)
      |(with_reducible exact LeO.refl _)
      |(with_reducible exact LeO.none _)
      |(with_reducible refine LeO.ite ?_ ?_)
      |(with_reducible refine LeO.bind ?_ (fun _=>?_))
      |exact ih0 _ _ _ _ _ _ _ _
      |exact ih1 _ _ _ _ _ _ _ _
      |exact ih2 _ _ _ _ _ _ _ _ _ _ _ _
      |exact ih3 _ _ _ _ _ _ _ _ _ _ _ _ _ _
      |exact ih4 _ _ _ _ _ _ _ _ _ _ _ _ _ _ _ _
      |exact ih5 _ _ _ _
      |exact impl_periodsOf.mono _ _ _
      |exact impl_ptimes.mono _ _ _ _ _ _ _
      |exact LeO.none _
      |refine LeO.ite ?_ ?_
      |refine LeO.bind ?_ (fun _=>?_)
theorem impl_PeriodPolynomial.mono:∀a0 a1 k,LeO (impl_PeriodPolynomial.f k a0 a1) (impl_PeriodPolynomial.f (k+1) a0 a1):=by
  intro a0 a1 k;obtain⟨ih0,ih1,ih2,ih3,ih4,ih5⟩:=impl_PeriodPolynomial.mono_l k;unfold impl_PeriodPolynomial.f;repeat' first
      |(with_reducible exact ih0 _ _ _ _ _ _ _ _)
      |(with_reducible exact ih1 _ _ _ _ _ _ _ _)
      |(with_reducible exact ih2 _ _ _ _ _ _ _ _ _ _ _ _)
      |(with_reducible exact ih3 _ _ _ _ _ _ _ _ _ _ _ _ _ _)
      |(with_reducible exact ih4 _ _ _ _ _ _ _ _ _ _ _ _ _ _ _ _)
      |(with_reducible exact ih5 _ _ _ _)
      |(with_reducible exact impl_periodsOf.mono _ _ _)
      |(with_reducible exact impl_ptimes.mono _ _ _ _ _ _ _)
      |(with_reducible exact LeO.refl _)
      |(with_reducible exact LeO.none _)
      |(with_reducible refine LeO.ite ?_ ?_)
      |(with_reducible refine LeO.bind ?_ (fun _=>?_))
      |exact ih0 _ _ _ _ _ _ _ _
      |exact ih1 _ _ _ _ _ _ _ _
      |exact ih2 _ _ _ _ _ _ _ _ _ _ _ _
      |exact ih3 _ _ _ _ _ _ _ _ _ _ _ _ _ _
      |exact ih4 _ _ _ _ _ _ _ _ _ _ _ _ _ _ _ _
      |exact ih5 _ _ _ _
      |exact impl_periodsOf.mono _ _ _
      |exact impl_ptimes.mono _ _ _ _ _ _ _
      |exact LeO.none _
      |refine LeO.ite ?_ ?_
      |refine LeO.bind ?_ (fun _=>?_)
set_option maxHeartbeats 8000000 in
set_option maxRecDepth 100000 in
theorem impl_PeriodPolynomial.calls (k:Nat) (a0:Int) (a1:Int) (r1:List Int) (r2:Int) (w:World) (h:impl_PeriodPolynomial.f k a0 a1=some (r1,r2)):
    Calls Try.prog 28 #[.int .i64 a0,.int .i64 a1] w fun e w'=>∃v0_:Value,e=.returned (.tuple #[v0_,.int .i64 r2])∧Kd.R (Kd.int .i64) 2 w' w.heap.size (fun _=>True) v0_ r1∧Below w.heap.size w w':=by
  have hu97:=Try.underlying97;have HB:=qAm (Below.refl w.heap.size w);have H:((impl_periodsOf.f k a0 a1).bind fun bt263=>(if bt263.2.2.2.2=true then (if 0≤a1 then (if (a1:Int).toNat≤35184372088832 then ((some (List.replicate (a1:Int).toNat 0:List Int)).bind fun y271=>(impl_PeriodPolynomial.l0 k a1 y271 (y271.length:Int) 0 bt263.1 bt263.2.1 bt263.2.2.1 bt263.2.2.2.1)) else (none)) else (none)) else (some (([]:List Int),2))))=some (r1,r2):=h;clear h;replace H:=qOb H;obtain⟨⟨t263,t264,t265,t266,t269⟩,A30,H⟩:=H;replace H:(if t269=true then (if 0≤a1 then (if (a1:Int).toNat≤35184372088832 then ((some (List.replicate (a1:Int).toNat 0:List Int)).bind fun y271=>(impl_PeriodPolynomial.l0 k a1 y271 (y271.length:Int) 0 t263 t264 t265 t266)) else (none)) else (none)) else (some (([]:List Int),2)))=some (r1,r2):=H;have A3:=qAm A30;clear A30
  by_cases c4:t269=true
  · subst c4
    have H1:(if 0≤a1 then (if (a1:Int).toNat≤35184372088832 then ((some (List.replicate (a1:Int).toNat 0:List Int)).bind fun y271=>(impl_PeriodPolynomial.l0 k a1 y271 (y271.length:Int) 0 t263 t264 t265 t266)) else (none)) else (none))=some (r1,r2):=by rw [if_pos rfl] at H;exact H
    clear H;have H:=H1;clear H1
    by_cases c5:0≤a1
    · rw [if_pos c5] at H
      have c5b0:=eq_true c5;have c5b1:decide (0≤a1)=true:=decide_eq_true c5;clear c5
      by_cases c6:(a1:Int).toNat≤35184372088832
      · rw [if_pos c6] at H
        have c6b0:=eq_true c6;have c6b1:decide ((a1:Int).toNat≤35184372088832)=true:=decide_eq_true c6;clear c6;obtain⟨y271,hy271⟩:∃y_:List Int,y_=(List.replicate (a1:Int).toNat 0):=⟨_,rfl⟩
        replace H:(impl_PeriodPolynomial.l0 k a1 y271 (y271.length:Int) 0 t263 t264 t265 t266)=some (r1,r2):=by first|(rw [hy271];with_reducible exact H)|(have H2_:=(Option.bind_some _ _).symm.trans H;rw [hy271];with_reducible exact H2_)|(have H2_:=(Option.bind_some _ _).symm.trans H;with_reducible exact H2_)|with_reducible exact H|(rw [hy271];exact H)|exact H
        have Ny271:=qAm hy271;clear hy271;have H':=qAm H;clear H;go_enter Try.func28,Try.ntmps28;go_wp2_with (first|((with_reducible refine gate_callee (f:=81) rfl ?_);refine goesL_ (some 24) rfl rfl Try.func81 (by kernel_rfl) rfl #[.int .i64 a0,.int .i64 a1] rfl qB15 ?_;(with_reducible refine(impl_periodsOf.calls k a0 a1 t263 t264 t265 t266 true _ A3.1).mono ?_);rintro e w7 ⟨v267,rfl,ho0,hb⟩;refine⟨_,rfl,?_⟩;have n0_:=qAm (Kd.R_lower ho0 (below_size qB19));have n1_:=qAm (below_step qB19 hb);clear HB;have HO268:=n0_;have HB:=n1_;clear n0_ n1_;(try clear hb);(try clear hb2);(try clear hk);(try clear hi);(try clear ho0))|((with_reducible refine gate_dst (N:=6) rfl ?_);refine box_event ?hg (N:=6) ?hd (cs:=#[.int .i64 0,.int .i64 0,.int .i64 0,.slice none 0 0]) (t:=97) ?hr ?_;(case hd=>rfl);(case hg=>rfl);(case hr=>first|(go_simp;done)|(go_simp;rfl));intro gb270 hg w8 hbox hb;have HU_:Aside0 (∀k_,(v267:Value).ownBlock=some k_→k_<gb270):=qAm (fun k_ e_=>by rw [hg];exact Kd.R_lt qB34 k_ e_);have n0_:=qAm (Kd.R_below qB34 hb);have n1_:=qAm (below_step qB19 hb);have n2_:=qAm (hbox);have n3_:=qAm ((by rw [hg];exact(below_size qB19):w.heap.size≤gb270));have n4_:=qAm ((by rw [hg];exact(below_size qB19):w.heap.size≤gb270));clear HO268;clear HB;have HO268:=n0_;have HB:=n1_;have BK270:=n2_;have GW270:=n3_;have GE270:=n4_;clear n0_ n1_ n2_ n3_ n4_;clear hb hbox hg;have hcz9_0:w8.cell? ⟨gb270,0,none⟩=some (.int .i64 0):=(blk_cell BK270.1 0).trans rfl;have hcz9_1:w8.cell? ⟨gb270,1,none⟩=some (.int .i64 0):=(blk_cell BK270.1 1).trans rfl;have hcz9_2:w8.cell? ⟨gb270,2,none⟩=some (.int .i64 0):=(blk_cell BK270.1 2).trans rfl;have hcz9_3:w8.cell? ⟨gb270,3,none⟩=some (.slice none 0 0):=(blk_cell BK270.1 3).trans rfl;have hfz9_0:=blk_frozen BK270.1 0;have hfz9_1:=blk_frozen BK270.1 1;have hfz9_2:=blk_frozen BK270.1 2;have hfz9_3:=blk_frozen BK270.1 3;obtain⟨Ao10,co10,eo10⟩:=Kd.R_slice HO268.1;subst eo10)|((with_reducible refine gate_dst (N:=30) rfl ?_);refine Kd.R_make (Kd.int .i64) _ 2 rfl (N:=30) rfl 22 _ _ rfl a1 rfl rfl Try.underlying22 (.int .i64 0) 8 info2 rfl (by decide) (by omega) 0 (ok:=fun _=>True) (okp:=fun _=>True) rfl (fun _ hk=>hk) trivial (of_decide_eq_true qB46) (Nat.le_trans (Nat.mul_le_mul_right _ (of_decide_eq_true qB46:a1.toNat≤35184372088832)) (by omega)) (Below.refl _ _) (Nat.le_refl _) ?_;intro v272 w11 ho12 hb hg_ hnew_;clear hg_ hnew_;(first|rw [← Ny271.1] at ho12|(simp only [Int.reduceToNat] at ho12;rw [← Ny271.1] at ho12));have n0_:=qAm (Kd.R_elder' qB1 (Kd.R_base ho12) hb);have n1_:=qAm (Kd.R_lower (Kd.R_new' ho12 (Kd.R_lt qB1)) (below_size qB7));have n2_:=qAm (blk_below (g:=gb270) (o:=.cells #[.int .i64 t263,.int .i64 t264,.int .i64 t265,.slice Ao10 t266.length co10] 97 (0,0)) (by (with_reducible repeat(first|refine blk_drewN ?_ _|refine blk_drew ?_|refine blk_alloc ?_ _));refine blk_put (cs:=#[.int .i64 t263,.int .i64 t264,.int .i64 t265,.slice none 0 0]) ?_ 3 _ rfl;(with_reducible repeat(first|refine blk_drewN ?_ _|refine blk_drew ?_|refine blk_alloc ?_ _));refine blk_put (cs:=#[.int .i64 t263,.int .i64 t264,.int .i64 0,.slice none 0 0]) ?_ 2 _ rfl;(with_reducible repeat(first|refine blk_drewN ?_ _|refine blk_drew ?_|refine blk_alloc ?_ _));refine blk_put (cs:=#[.int .i64 t263,.int .i64 0,.int .i64 0,.slice none 0 0]) ?_ 1 _ rfl;(with_reducible repeat(first|refine blk_drewN ?_ _|refine blk_drew ?_|refine blk_alloc ?_ _));refine blk_put (cs:=#[.int .i64 0,.int .i64 0,.int .i64 0,.slice none 0 0]) ?_ 0 _ rfl;(with_reducible repeat(first|refine blk_drewN ?_ _|refine blk_drew ?_|refine blk_alloc ?_ _));exact BK270.1) hb);have n3_:=qAm (below_step qB7 hb);clear HO268;clear BK270;clear HB;have HO268:=n0_;have HO273:=n1_;have BK270:=n2_;have HB:=n3_;clear n0_ n1_ n2_ n3_;clear hb ho12;obtain⟨Ao13,co13,eo13⟩:=Kd.R_slice HO273.1;subst eo13));try simp only [Act.put,qSa,qSc,qSb]
        go_loopg [33] k (fun kq v33 w'=>∃(x8_1:List Int) (x33_1:Int),v33=.int .i64 x33_1∧Aside0 (impl_PeriodPolynomial.l0 kq a1 x8_1 (y271.length:Int) x33_1 t263 t264 t265 t266=some (r1,r2))∧Aside0 (kq≤k)∧Aside0 (Kd.R (Kd.int .i64) 2 w' w.heap.size (fun k_=>some k_≠((.slice Ao10 t266.length co10):Value).ownBlock) (.slice Ao13 y271.length co13) x8_1)∧Aside0 (Kd.R (Kd.int .i64) 2 w' w.heap.size (fun k_=>some k_≠((.slice Ao13 y271.length co13):Value).ownBlock) (.slice Ao10 t266.length co10) t266)∧Aside0 (w'.heap[gb270]? =some (.cells #[.int .i64 t263,.int .i64 t264,.int .i64 t265,(.slice Ao10 t266.length co10)] 97 (0,0)))∧Aside0 (Below w.heap.size w w'))
        case atStart=>exact⟨(y271),(0),qB47,H',⟨Nat.le_refl _⟩,⟨by (with_reducible repeat(first|apply Kd.R_alloc|apply Kd.R_drewN|apply Kd.R_drew));exact Kd.R_mono HO273.1 (fun _ hk=>hk.2)⟩,⟨by (with_reducible repeat(first|apply Kd.R_alloc|apply Kd.R_drewN|apply Kd.R_drew));exact Kd.R_mono HO268.1 (fun _ hk=>hk.2)⟩,⟨by (with_reducible repeat(first|refine blk_drewN ?_ _|refine blk_drew ?_|refine blk_alloc ?_ _));exact BK270.1⟩,⟨by repeat(first|(with_reducible first|exact HB.1|apply below_alloc|apply pw_below_drewN|apply below_drew1|refine below_set ?_ GE270.1)|exact HB.1)⟩⟩
        case round=>
          clear H';try clear c2
          try clear p2
          try clear c4
          try clear c5
          try clear c5b0
          try clear c5b1
          try clear c6
          try clear c6b0
          try clear c6b1
          try clear c8
          try clear hcz9_0
          try clear hcz9_1
          try clear hcz9_2
          try clear hcz9_3
          try clear hfz9_0
          try clear hfz9_1
          try clear hfz9_2
          try clear hfz9_3
          obtain⟨x8_1,x33_1,rfl,HA,HK1,HO_8,HO_271003,BK270,HB⟩:=hrel;have hl8_1:=(Kd.R_reads' HO_8.1).1;rw [hl8_1] at HO_8
          (try simp only [hl8_1])
          (try simp only [hl8_1] at BK270)
          (try simp only [hl8_1] at HO_271003)
          cases gk with
          |zero=>exact absurd HA.1 (by simp [impl_PeriodPolynomial.l0])
          |succ k1=>
            have H:=HA.1;clear HA;simp only [impl_PeriodPolynomial.l0] at H
            by_cases c14:x33_1<(y271.length:Int)
            · rw [if_pos c14] at H
              have c14b0:decide (x33_1<(y271.length:Int))=true:=decide_eq_true c14;clear c14
              by_cases c15:0≤x33_1
              · rw [if_pos c15] at H
                have c15b0:decide (0≤x33_1)=true:=decide_eq_true c15;clear c15
                by_cases c16:x33_1<(x8_1.length:Int)
                · rw [if_pos c16] at H
                  have c16b0:decide (x33_1<(x8_1.length:Int))=true:=decide_eq_true c16;clear c16;obtain⟨y274,hy274⟩:∃y_:List Int,y_=(x8_1.set (x33_1:Int).toNat (-1)):=⟨_,rfl⟩
                  replace H:(impl_PeriodPolynomial.l0 k1 a1 y274 (y271.length:Int) (wrap64 (x33_1+1)) t263 t264 t265 t266)=some (r1,r2):=by first|(rw [hy274];with_reducible exact H)|(have H2_:=(Option.bind_some _ _).symm.trans H;rw [hy274];with_reducible exact H2_)|(have H2_:=(Option.bind_some _ _).symm.trans H;with_reducible exact H2_)|with_reducible exact H|(rw [hy274];exact H)|exact H
                  have Ny274:=qAm hy274;clear hy274;have H':=qAm H;clear H;have p17:0≤(x33_1:Int):=of_decide_eq_true qB46;have q17:(x33_1:Int)<((x8_1.length:Int):Int):=of_decide_eq_true qB46;obtain⟨go17,co17,eo17,gb17,gl17,cl17,HG17⟩:=Kd.R_form HO_8.1 (by omega)
                  (first|cases eo17|(injection eo17 with ea_ en_ ec_;(first|subst ea_|(injection ea_ with ea_;subst ea_));subst ec_;clear en_))
                  have GB17:=qAm gb17;have GG17:=qAm HG17;clear gb17 gl17 HG17;obtain⟨hx17_0,hf17_0⟩:=Kd.R_celln 0 HO_8.1 (x33_1:Int) p17 q17;replace p17:=eq_true p17;replace q17:=eq_true q17;have HP18:=Kd.R_putg HO_8.1 (x33_1:Int) (-1);go_wp2_with (first|((with_reducible refine gate_store (t:=2) (p:=38) rfl ?_);refine store_event (t:=2) (p:=38) (v:=?vo_w19) (w1:=(wr.setCell ⟨go17,(x33_1:Int).toNat,none⟩ (.int .i64 (-1)))) ?hg ?ho ?hn ?hr ?_;(case ho=>rfl);(case hg=>rfl);(case hn=>rfl);(case hr=>first|(go_simp;done)|(go_simp;rfl));intro w19 hw;have hg:wr.grownBy w19 (some go17):=(by rw [hw];exact HP18.2);have hp_:Kd.R (Kd.int .i64) 2 w19 w.heap.size (fun k_=>some k_≠(.slice Ao10 t266.length co10:Value).ownBlock) (.slice (some ⟨go17,0,none⟩) x8_1.length co13) y274:=(by rw [hw,Ny274.1];exact HP18.1);clear HP18;have n0_:=qAm (hp_);have n1_:=qAm (Kd.R_after (v:=(.slice (some ⟨go17,0,none⟩) x8_1.length co13)) (v1:=(.slice (some ⟨go17,0,none⟩) x8_1.length co13)) (ok:=(fun _=>True)) qB8 hg (.inl rfl));have n2_:=qAm (blk_grown (g:=gb270) (o:=.cells #[.int .i64 t263,.int .i64 t264,.int .i64 t265,.slice Ao10 t266.length co10] 97 (0,0)) qB22 hg (Kd.R_ne HO_8.1 BK270.1 (by decide)));have n3_:=qAm ((by rw [hw];exact below_set (HB.1) GB17.1:Below w.heap.size w w19));clear HO_8;clear HO_271003;clear BK270;clear HB;have HO_8:=n0_;have HO_271003:=n1_;have BK270:=n2_;have HB:=n3_;clear n0_ n1_ n2_ n3_;clear hg hw hp_))
                  (try simp only [← hl8_1])
                  (first|go_roundg k1|((try simp only [add_plain] at *);go_roundg k1))
                  case measure=>have:=HK1.1;omega
                  case rel=>exact⟨(y274),(wrap64 (x33_1+1)),qB47,H',⟨by have:=HK1.1;omega⟩,⟨by (try simp only [hl8_1]);(with_reducible repeat(first|apply Kd.R_alloc|apply Kd.R_drewN|apply Kd.R_drew));exact HO_8.1⟩,⟨by (try simp only [hl8_1]);(with_reducible repeat(first|apply Kd.R_alloc|apply Kd.R_drewN|apply Kd.R_drew));exact Kd.R_mono HO_271003.1 (fun _ hk=>hk.2)⟩,⟨by (try simp only [hl8_1]);(with_reducible repeat(first|refine blk_drewN ?_ _|refine blk_drew ?_|refine blk_alloc ?_ _));exact BK270.1⟩,⟨by repeat(first|(with_reducible first|exact HB.1|apply below_alloc|apply pw_below_drewN|apply below_drew1|refine below_set ?_ GE270.1)|exact HB.1)⟩⟩
                · rw [if_neg c16] at H
                  exact absurd H (by simp)
              · rw [if_neg c15] at H
                exact absurd H (by simp)
            · rw [if_neg c14] at H
              have c14b0:decide (x33_1<(y271.length:Int))=false:=decide_eq_false c14;have c14b0_0:=c14b0
              (try rw [hl8_1] at c14b0_0)
              clear c14;obtain⟨y275,hy275⟩:∃y_:List (List Int),y_=(([x8_1]:List (List Int))):=⟨_,rfl⟩
              replace H:(impl_PeriodPolynomial.l1 k1 a1 y275 a1 0 t263 t264 t265 t266)=some (r1,r2):=by first|(rw [hy275];with_reducible exact H)|(have H2_:=(Option.bind_some _ _).symm.trans H;rw [hy275];with_reducible exact H2_)|(have H2_:=(Option.bind_some _ _).symm.trans H;with_reducible exact H2_)|with_reducible exact H|(rw [hy275];exact H)|exact H
              have Ny275:=qAm hy275;clear hy275;have H':=qAm H;clear H;go_wp2_with (first|((with_reducible refine gate_dst (N:=41) rfl ?_);refine Kd.N_lit (Kd.slice 2 (Kd.int .i64)) _ 22 ?hg (N':=41) ?hd (xs:=([x8_1]:List (List Int))) (inner:=[.slice Ao13 x8_1.length co13]) (ok:=(fun k_=>some k_≠(.slice Ao10 t266.length co10:Value).ownBlock∧k_≠gb270)) (okp:=(fun k_=>some k_≠(.slice Ao10 t266.length co10:Value).ownBlock∧k_≠gb270)) ?hr ?hp (fun _ hk=>hk) ((show ∀k_,wr.heap.size≤k_→(fun k_=>some k_≠(.slice Ao10 t266.length co10:Value).ownBlock∧k_≠gb270) k_ from fun k_ hk=>⟨Kd.fresh' (Kd.R_lt qB23) k_ hk,Kd.freshB (g:=gb270) (o:=.cells #[.int .i64 t263,.int .i64 t264,.int .i64 t265,.slice Ao10 t266.length co10] 97 (0,0)) qB22 k_ hk⟩) _ (Nat.le_refl _)) (Below.refl _ _) (Nat.le_refl _) (by simp) ?_;(case hd=>rfl);(case hg=>rfl);(case hr=>first|(go_simp;done)|(go_simp;rfl));(case hp=>exact(Reps.one (show Kd.FK (Kd.slice 2 (Kd.int .i64)) _ _ x8_1 [.slice Ao13 x8_1.length co13] from (Kd.FK_slice_mk (Kd.R_reads' (Kd.R_mono (ok':=(fun k_=>some k_≠(.slice Ao10 t266.length co10:Value).ownBlock∧k_≠gb270)) (Kd.R_types (HO_8.1) BK270.1 (by decide)) (fun k_ hk=>⟨hk.1,hk.2⟩))).2.1 (Kd.R_F (Kd.R_mono (ok':=(fun k_=>some k_≠(.slice Ao10 t266.length co10:Value).ownBlock∧k_≠gb270)) (Kd.R_types (HO_8.1) BK270.1 (by decide)) (fun k_ hk=>⟨hk.1,hk.2⟩))))) (Reps.none _ _)));intro v276 w20 ho21 hb hg_ hnew_;clear hg_ hnew_;(first|rw [← Ny275.1] at ho21|(simp only [Int.reduceToNat] at ho21;rw [← Ny275.1] at ho21));have n0_:=qAm (Kd.R_below qB23 hb);have n1_:=qAm (Kd.N_lower ho21 (below_size qB7));have n2_:=qAm (blk_below (g:=gb270) (o:=.cells #[.int .i64 t263,.int .i64 t264,.int .i64 t265,.slice Ao10 t266.length co10] 97 (0,0)) qB22 hb);have n3_:=qAm (below_step qB7 hb);clear HO_271003;clear BK270;clear HB;clear HO_8;have HO_271003:=n0_;have HO277:=n1_;have BK270:=n2_;have HB:=n3_;clear n0_ n1_ n2_ n3_;clear hb ho21));try simp only [Act.put,qSa,qSc,qSb]
              go_loopg [10,43] k1 (fun kq v10 v43 w'=>∃(x10_2:List (List Int)) (x43_2:Int) (x271003_2:List Int) (u271003:Value),Aside0 (∀k_,(u271003:Value).ownBlock=some k_→k_<gb270)∧v43=.int .i64 x43_2∧Aside0 (impl_PeriodPolynomial.l1 kq a1 x10_2 a1 x43_2 t263 t264 t265 x271003_2=some (r1,r2))∧Aside0 (kq≤k1)∧Aside0 (Kd.N (Kd.slice 2 (Kd.int .i64)) 22 w' w.heap.size (fun k_=>some k_≠(u271003:Value).ownBlock∧k_≠gb270) v10 x10_2)∧Aside0 (Kd.R (Kd.int .i64) 2 w' w.heap.size (fun _=>True) u271003 x271003_2)∧Aside0 (w'.heap[gb270]? =some (.cells #[.int .i64 t263,.int .i64 t264,.int .i64 t265,u271003] 97 (0,0)))∧Aside0 (Below w.heap.size w w'))
              case atStart=>exact⟨(y275),(0),(t266),(.slice Ao10 t266.length co10),HU_,qB47,H',⟨Nat.le_refl _⟩,⟨by (try simp only [hl8_1]);(with_reducible repeat(first|apply Kd.N_alloc|apply Kd.N_drewN|apply Kd.N_drew));exact HO277.1⟩,⟨by (try simp only [hl8_1]);(with_reducible repeat(first|apply Kd.R_alloc|apply Kd.R_drewN|apply Kd.R_drew));exact Kd.R_mono HO_271003.1 (fun _ hk=>trivial)⟩,⟨by (try simp only [hl8_1]);(with_reducible repeat(first|refine blk_drewN ?_ _|refine blk_drew ?_|refine blk_alloc ?_ _));exact BK270.1⟩,⟨by repeat(first|(with_reducible first|exact HB.1|apply below_alloc|apply pw_below_drewN|apply below_drew1|refine below_set ?_ GE270.1)|exact HB.1)⟩⟩
              case round=>
                clear H';try clear c1
                try clear p1
                try clear q1
                try clear hx1
                try clear c2
                try clear p2
                try clear c4
                try clear c5
                try clear c5b0
                try clear c5b1
                try clear c6
                try clear c6b0
                try clear c6b1
                try clear p6
                try clear c8
                try clear c14
                try clear c14b0
                try clear c15
                try clear c15b0
                try clear c16
                try clear c16b0
                try clear p17
                try clear q17
                try clear hx17
                try clear hf17
                try clear hcz9_0
                try clear hcz9_1
                try clear hcz9_2
                try clear hcz9_3
                try clear hfz9_0
                try clear hfz9_1
                try clear hfz9_2
                try clear hfz9_3
                try clear hx17_0
                try clear p17
                try clear p2
                try clear q17
                obtain⟨x10_2,x43_2,x271003_2,u271003,HU_,rfl,HA,HK2,HO_10,HO_271003,BK270,HB⟩:=hrel;cases gk with
                |zero=>exact absurd HA.1 (by simp [impl_PeriodPolynomial.l1])
                |succ k2=>
                  have H:=HA.1;clear HA;simp only [impl_PeriodPolynomial.l1] at H
                  by_cases c22:x43_2<a1
                  · rw [if_pos c22] at H
                    have c22b0:decide (x43_2<a1)=true:=decide_eq_true c22;clear c22
                    by_cases c23:0≤a1
                    · rw [if_pos c23] at H
                      have c23b0:=eq_true c23;have c23b1:decide (0≤a1)=true:=decide_eq_true c23;clear c23
                      by_cases c24:(a1:Int).toNat≤35184372088832
                      · rw [if_pos c24] at H
                        have c24b0:=eq_true c24;have c24b1:decide ((a1:Int).toNat≤35184372088832)=true:=decide_eq_true c24;clear c24;obtain⟨y278,hy278⟩:∃y_:List Int,y_=(List.replicate (a1:Int).toNat 0):=⟨_,rfl⟩
                        replace H:(if 0≤x43_2 then (if x43_2<(y278.length:Int) then (impl_PeriodPolynomial.l2 k2 a1 x10_2 (y278.set (x43_2:Int).toNat 1) (([]:List (List Int))) a1 x43_2 (wrap64 ((x10_2.length:Int)+1)) 0 t263 t264 t265 x271003_2) else (none)) else (none))=some (r1,r2):=by first|(rw [hy278];with_reducible exact H)|(have H2_:=(Option.bind_some _ _).symm.trans H;rw [hy278];with_reducible exact H2_)|(have H2_:=(Option.bind_some _ _).symm.trans H;with_reducible exact H2_)|with_reducible exact H|(rw [hy278];exact H)|exact H
                        have Ny278:=qAm hy278;clear hy278
                        by_cases c25:0≤x43_2
                        · rw [if_pos c25] at H
                          have c25b0:decide (0≤x43_2)=true:=decide_eq_true c25;clear c25
                          by_cases c26:x43_2<(y278.length:Int)
                          · rw [if_pos c26] at H
                            have c26b0:decide (x43_2<(y278.length:Int))=true:=decide_eq_true c26;clear c26;obtain⟨y281,hy281⟩:∃y_:List Int,y_=(y278.set (x43_2:Int).toNat 1):=⟨_,rfl⟩
                            replace H:(impl_PeriodPolynomial.l2 k2 a1 x10_2 y281 (([]:List (List Int))) a1 x43_2 (wrap64 ((x10_2.length:Int)+1)) 0 t263 t264 t265 x271003_2)=some (r1,r2):=by first|(rw [hy281];with_reducible exact H)|(have H2_:=(Option.bind_some _ _).symm.trans H;rw [hy281];with_reducible exact H2_)|(have H2_:=(Option.bind_some _ _).symm.trans H;with_reducible exact H2_)|with_reducible exact H|(rw [hy281];exact H)|exact H
                            have Ny281:=qAm hy281;clear hy281;obtain⟨y282,hy282⟩:∃y_:List (List Int),y_=(([]:List (List Int))):=⟨_,rfl⟩
                            replace H:(impl_PeriodPolynomial.l2 k2 a1 x10_2 y281 y282 a1 x43_2 (wrap64 ((x10_2.length:Int)+1)) 0 t263 t264 t265 x271003_2)=some (r1,r2):=by first|(rw [hy282];with_reducible exact H)|(have H2_:=(Option.bind_some _ _).symm.trans H;rw [hy282];with_reducible exact H2_)|(have H2_:=(Option.bind_some _ _).symm.trans H;with_reducible exact H2_)|with_reducible exact H|(rw [hy282];exact H)|exact H
                            have Ny282:=qAm hy282;clear hy282;have H':=qAm H;clear H;go_wp2_with (first|((with_reducible refine gate_dst (N:=47) rfl ?_);refine Kd.R_make (Kd.int .i64) _ 2 rfl (N:=47) rfl 22 _ _ rfl a1 rfl rfl Try.underlying22 (.int .i64 0) 8 info2 rfl (by decide) (by omega) 0 (ok:=fun _=>True) (okp:=fun _=>True) rfl (fun _ hk=>hk) trivial (of_decide_eq_true qB46) (Nat.le_trans (Nat.mul_le_mul_right _ (of_decide_eq_true qB46:a1.toNat≤35184372088832)) (by omega)) (Below.refl _ _) (Nat.le_refl _) ?_;intro v279 w28 ho29 hb hg_ hnew_;clear hg_ hnew_;(first|rw [← Ny278.1] at ho29|(simp only [Int.reduceToNat] at ho29;rw [← Ny278.1] at ho29));have n0_:=qAm (Kd.N_elder' qB35 (Kd.R_base ho29) hb);have n1_:=qAm (Kd.R_elder' qB23 (Kd.R_base ho29) hb);have n2_:=qAm (Kd.R_lower (Kd.R_new' ho29 (Kd.R_lt qB23)) (below_size qB7));have n3_:=qAm (blk_below (g:=gb270) (o:=.cells #[.int .i64 t263,.int .i64 t264,.int .i64 t265,u271003] 97 (0,0)) qB22 hb);have n4_:=qAm (below_step qB7 hb);clear HO_10;clear HO_271003;clear BK270;clear HB;have HO_10:=n0_;have HO_271003:=n1_;have HO280:=n2_;have BK270:=n3_;have HB:=n4_;clear n0_ n1_ n2_ n3_ n4_;clear hb ho29;have p27:0≤(x43_2:Int):=of_decide_eq_true qB46;have q27:(x43_2:Int)<((y278.length:Int):Int):=of_decide_eq_true qB46;obtain⟨go27,co27,eo27,gb27,gl27,cl27,HG27⟩:=Kd.R_form HO280.1 (by omega);(first|cases eo27|(injection eo27 with ea_ en_ ec_;(first|subst ea_|(injection ea_ with ea_;subst ea_));subst ec_;clear en_));have GB27:=qAm gb27;have GG27:=qAm HG27;clear gb27 gl27 HG27;obtain⟨hx27_0,hf27_0⟩:=Kd.R_celln 0 HO280.1 (x43_2:Int) p27 q27;replace p27:=eq_true p27;replace q27:=eq_true q27;have n_:=qAm (Kd.R_mono (ok':=(fun k_=>some k_≠(u271003:Value).ownBlock)) HO280.1 (fun k_ hk=>hk.2));clear HO280;have HO280:=n_;clear n_;obtain⟨hy30_,hz30_⟩:=Kd.R_celln 0 HO280.1 (x43_2:Int) (of_decide_eq_true qB46) (of_decide_eq_true qB46);have HP30:=Kd.R_putg HO280.1 (x43_2:Int) 1)|((with_reducible refine gate_store (t:=2) (p:=50) rfl ?_);refine store_event (t:=2) (p:=50) (v:=?vo_w31) (w1:=(w28.setCell ⟨go27,(x43_2:Int).toNat,none⟩ (.int .i64 1))) ?hg ?ho ?hn ?hr ?_;(case ho=>rfl);(case hg=>rfl);(case hn=>rfl);(case hr=>first|(go_simp;done)|(go_simp;rfl));intro w31 hw;have hg:w28.grownBy w31 (some go27):=(by rw [hw];exact HP30.2);have hp_:Kd.R (Kd.int .i64) 2 w31 w.heap.size (fun k_=>some k_≠(u271003:Value).ownBlock) (.slice (some ⟨go27,0,none⟩) y278.length co27) y281:=(by rw [hw,Ny281.1];exact HP30.1);clear HP30;have n0_:=qAm (Kd.N_afterv (v:=(.slice (some ⟨go27,0,none⟩) y278.length co27)) (v1:=(.slice (some ⟨go27,0,none⟩) y278.length co27)) (ok:=(fun k_=>some k_≠(u271003:Value).ownBlock∧k_≠gb270)) qB35 hg (.inl rfl));have n1_:=qAm (Kd.R_after (v:=(.slice (some ⟨go27,0,none⟩) y278.length co27)) (v1:=(.slice (some ⟨go27,0,none⟩) y278.length co27)) (ok:=(fun _=>True)) qB23 hg (.inl rfl));have n2_:=qAm (blk_grown (g:=gb270) (o:=.cells #[.int .i64 t263,.int .i64 t264,.int .i64 t265,u271003] 97 (0,0)) qB22 hg (Kd.R_ne HO280.1 BK270.1 (by decide)));have n3_:=qAm (hp_);have n4_:=qAm ((by rw [hw];exact below_set (HB.1) GB27.1:Below w.heap.size w w31));clear HO_10;clear HO_271003;clear BK270;clear HO280;clear HB;have HO_10:=n0_;have HO_271003:=n1_;have BK270:=n2_;have HO280:=n3_;have HB:=n4_;clear n0_ n1_ n2_ n3_ n4_;clear hg hw hp_)|((with_reducible refine gate_dst (N:=51) rfl ?_);refine Kd.N_lit (Kd.slice 2 (Kd.int .i64)) _ 22 ?hg (N':=51) ?hd (xs:=([]:List (List Int))) (inner:=[]) (ok:=(fun k_=>some k_≠(u10:Value).ownBlock∧some k_≠(u271003:Value).ownBlock∧some k_≠(.slice (some ⟨go27,0,none⟩) y278.length co27:Value).ownBlock∧k_≠gb270)) (okp:=(fun k_=>some k_≠(u10:Value).ownBlock∧some k_≠(u271003:Value).ownBlock∧some k_≠(.slice (some ⟨go27,0,none⟩) y278.length co27:Value).ownBlock∧k_≠gb270)) ?hr ?hp (fun _ hk=>hk) ((show ∀k_,w31.heap.size≤k_→(fun k_=>some k_≠(u10:Value).ownBlock∧some k_≠(u271003:Value).ownBlock∧some k_≠(.slice (some ⟨go27,0,none⟩) y278.length co27:Value).ownBlock∧k_≠gb270) k_ from fun k_ hk=>⟨Kd.fresh' (Kd.N_lt qB35) k_ hk,Kd.fresh' (Kd.R_lt qB23) k_ hk,Kd.fresh' (Kd.R_lt qB36) k_ hk,Kd.freshB (g:=gb270) (o:=.cells #[.int .i64 t263,.int .i64 t264,.int .i64 t265,u271003] 97 (0,0)) qB22 k_ hk⟩) _ (Nat.le_refl _)) (Below.refl _ _) (Nat.le_refl _) (by simp) ?_;(case hd=>rfl);(case hg=>rfl);(case hr=>first|(go_simp;done)|(go_simp;rfl));(case hp=>exact(Reps.none _ _));intro v283 w32 ho33 hb hg_ hnew_;clear hg_ hnew_;(first|rw [← Ny282.1] at ho33|(simp only [Int.reduceToNat] at ho33;rw [← Ny282.1] at ho33));have n0_:=qAm (Kd.N_elder' qB35 (Kd.N_base ho33) hb);have n1_:=qAm (Kd.R_below qB23 hb);have n2_:=qAm (Kd.R_below qB36 hb);have n3_:=qAm (Kd.N_lower ho33 (below_size qB7));have n4_:=qAm (blk_below (g:=gb270) (o:=.cells #[.int .i64 t263,.int .i64 t264,.int .i64 t265,u271003] 97 (0,0)) qB22 hb);have n5_:=qAm (below_step qB7 hb);clear HO_10;clear HO_271003;clear HO280;clear BK270;clear HB;have HO_10:=n0_;have HO_271003:=n1_;have HO280:=n2_;have HO284:=n3_;have BK270:=n4_;have HB:=n5_;clear n0_ n1_ n2_ n3_ n4_ n5_;clear hb ho33;obtain⟨Ao34,co34,eo34⟩:=Kd.N_slice HO_10.1;subst eo34));try simp only [Act.put,qSa,qSc,qSb]
                            go_loopg [13,55] k2 (fun kq v13 v55 w'=>∃(x10_3:List (List Int)) (x12_3:List Int) (x13_3:List (List Int)) (x55_3:Int) (x271003_3:List Int) (u271003:Value),Aside0 (∀k_,(u271003:Value).ownBlock=some k_→k_<gb270)∧v55=.int .i64 x55_3∧Aside0 (impl_PeriodPolynomial.l2 kq a1 x10_3 x12_3 x13_3 a1 x43_2 (wrap64 ((x10_2.length:Int)+1)) x55_3 t263 t264 t265 x271003_3=some (r1,r2))∧Aside0 (kq≤k2)∧Aside0 (Kd.N (Kd.slice 2 (Kd.int .i64)) 22 w' w.heap.size (fun k_=>some k_≠((.slice (some ⟨go27,0,none⟩) y278.length co27):Value).ownBlock∧some k_≠(v13:Value).ownBlock∧some k_≠(u271003:Value).ownBlock∧k_≠gb270) (.slice Ao34 x10_2.length co34) x10_3)∧Aside0 (Kd.R (Kd.int .i64) 2 w' w.heap.size (fun k_=>some k_≠(u271003:Value).ownBlock) (.slice (some ⟨go27,0,none⟩) y278.length co27) x12_3)∧Aside0 (Kd.N (Kd.slice 2 (Kd.int .i64)) 22 w' w.heap.size (fun k_=>some k_≠((.slice Ao34 x10_2.length co34):Value).ownBlock∧some k_≠((.slice (some ⟨go27,0,none⟩) y278.length co27):Value).ownBlock∧some k_≠(u271003:Value).ownBlock∧k_≠gb270) v13 x13_3)∧Aside0 (Kd.R (Kd.int .i64) 2 w' w.heap.size (fun k_=>some k_≠((.slice (some ⟨go27,0,none⟩) y278.length co27):Value).ownBlock) u271003 x271003_3)∧Aside0 (w'.heap[gb270]? =some (.cells #[.int .i64 t263,.int .i64 t264,.int .i64 t265,u271003] 97 (0,0)))∧Aside0 (Below w.heap.size w w'))
                            case atStart=>exact⟨(x10_2),(y281),(y282),(0),(x271003_2),(u271003),HU_,qB47,H',⟨Nat.le_refl _⟩,⟨by (try simp only [hl8_1]);(with_reducible repeat(first|apply Kd.N_alloc|apply Kd.N_drewN|apply Kd.N_drew));exact Kd.N_mono HO_10.1 (fun _ hk=>⟨hk.1.2,⟨hk.2,⟨hk.1.1.1,hk.1.1.2⟩⟩⟩)⟩,⟨by (try simp only [hl8_1]);(with_reducible repeat(first|apply Kd.R_alloc|apply Kd.R_drewN|apply Kd.R_drew));exact HO280.1⟩,⟨by (try simp only [hl8_1]);(with_reducible repeat(first|apply Kd.N_alloc|apply Kd.N_drewN|apply Kd.N_drew));exact Kd.N_mono HO284.1 (fun _ hk=>⟨hk.1,⟨hk.2.2.1,⟨hk.2.1,hk.2.2.2⟩⟩⟩)⟩,⟨by (try simp only [hl8_1]);(with_reducible repeat(first|apply Kd.R_alloc|apply Kd.R_drewN|apply Kd.R_drew));exact Kd.R_mono HO_271003.1 (fun _ hk=>hk.2)⟩,⟨by (try simp only [hl8_1]);(with_reducible repeat(first|refine blk_drewN ?_ _|refine blk_drew ?_|refine blk_alloc ?_ _));exact BK270.1⟩,⟨by repeat(first|(with_reducible first|exact HB.1|apply below_alloc|apply pw_below_drewN|apply below_drew1|refine below_set ?_ GE270.1)|exact HB.1)⟩⟩
                            case round=>
                              clear H';try clear c1
                              try clear p1
                              try clear q1
                              try clear hx1
                              try clear c2
                              try clear p2
                              try clear q2
                              try clear hx2
                              try clear hf2
                              try clear c4
                              try clear c5
                              try clear c5b0
                              try clear c5b1
                              try clear c6
                              try clear c6b0
                              try clear c6b1
                              try clear p6
                              try clear c8
                              try clear c14
                              try clear c14b0
                              try clear c15
                              try clear c15b0
                              try clear c16
                              try clear c16b0
                              try clear p17
                              try clear q17
                              try clear hx17
                              try clear hf17
                              try clear c22
                              try clear c22b0
                              try clear c23
                              try clear c23b0
                              try clear c23b1
                              try clear c24
                              try clear c24b0
                              try clear c24b1
                              try clear c25
                              try clear c25b0
                              try clear c26
                              try clear c26b0
                              try clear p27
                              try clear q27
                              try clear hx27
                              try clear hf27
                              try clear c28
                              try clear hcz9_0
                              try clear hcz9_1
                              try clear hcz9_2
                              try clear hcz9_3
                              try clear hfz9_0
                              try clear hfz9_1
                              try clear hfz9_2
                              try clear hfz9_3
                              try clear hx17_0
                              try clear hx27_0
                              try clear p1
                              try clear p17
                              try clear p2
                              try clear p27
                              try clear p6
                              try clear q1
                              try clear q17
                              try clear q27
                              obtain⟨x10_3,x12_3,x13_3,x55_3,x271003_3,u271003,HU_,rfl,HA,HK3,HO_10,HO_12,HO_13,HO_271003,BK270,HB⟩:=hrel;have hl10_3:=(Kd.N_reads' HO_10.1).1;rw [hl10_3] at HO_10
                              (try simp only [hl10_3])
                              (try simp only [hl10_3] at BK270)
                              (try simp only [hl10_3] at HO_12)
                              (try simp only [hl10_3] at HO_13)
                              (try simp only [hl10_3] at HO_271003)
                              have hl12_3:=(Kd.R_reads' HO_12.1).1;rw [hl12_3] at HO_12
                              (try simp only [hl12_3])
                              (try simp only [hl12_3] at BK270)
                              (try simp only [hl12_3] at HO_10)
                              (try simp only [hl12_3] at HO_13)
                              (try simp only [hl12_3] at HO_271003)
                              cases gk with
                              |zero=>exact absurd HA.1 (by simp [impl_PeriodPolynomial.l2])
                              |succ k3=>
                                have H:=HA.1;clear HA;simp only [impl_PeriodPolynomial.l2] at H
                                by_cases c35:x55_3<(wrap64 ((x10_2.length:Int)+1))
                                · rw [if_pos c35] at H
                                  have c35b0:decide (x55_3<(wrap64 ((x10_2.length:Int)+1)))=true:=decide_eq_true c35;have c35b0w:decide (x55_3<(IntKind.i64.wrap ((x10_2.length:Int)+1)))=true:=by first|(simp only [i64_w];exact c35b0)|exact c35b0
                                  have c35b0x:=c35b0
                                  (try simp only [hl10_3] at c35b0x)
                                  have c35b0y:=c35b0w
                                  (try simp only [hl10_3] at c35b0y)
                                  clear c35
                                  by_cases c36:0≤a1
                                  · rw [if_pos c36] at H
                                    have c36b0:=eq_true c36;have c36b1:decide (0≤a1)=true:=decide_eq_true c36;clear c36
                                    by_cases c37:(a1:Int).toNat≤35184372088832
                                    · rw [if_pos c37] at H
                                      have c37b0:=eq_true c37;have c37b1:decide ((a1:Int).toNat≤35184372088832)=true:=decide_eq_true c37;clear c37;obtain⟨y285,hy285⟩:∃y_:List Int,y_=(List.replicate (a1:Int).toNat 0):=⟨_,rfl⟩
                                      replace H:(if x55_3 > 0 then (if 0≤(wrap64 (x55_3 - 1)) then (if (wrap64 (x55_3 - 1))<(x10_3.length:Int) then (if y285.length+(rd_L1 x10_3 (wrap64 (x55_3 - 1))).length<17592186044416 then (impl_PeriodPolynomial.j3 k3 a1 x10_3 x12_3 x13_3 x55_3 (hpp_cp y285 (rd_L1 x10_3 (wrap64 (x55_3 - 1)))) a1 x43_2 (wrap64 ((x10_2.length:Int)+1)) x55_3 t263 t264 t265 x271003_3) else (none)) else (none)) else (none)) else (impl_PeriodPolynomial.j3 k3 a1 x10_3 x12_3 x13_3 x55_3 y285 a1 x43_2 (wrap64 ((x10_2.length:Int)+1)) x55_3 t263 t264 t265 x271003_3))=some (r1,r2):=by first|(rw [hy285];with_reducible exact H)|(have H2_:=(Option.bind_some _ _).symm.trans H;rw [hy285];with_reducible exact H2_)|(have H2_:=(Option.bind_some _ _).symm.trans H;with_reducible exact H2_)|with_reducible exact H|(rw [hy285];exact H)|exact H
                                      have Ny285:=qAm hy285;clear hy285;have HC38:=qAm H;clear H;go_upto_if 61 with (first|((with_reducible refine gate_dst (N:=59) rfl ?_);refine Kd.R_make (Kd.int .i64) _ 2 rfl (N:=59) rfl 22 _ _ rfl a1 rfl rfl Try.underlying22 (.int .i64 0) 8 info2 rfl (by decide) (by omega) 0 (ok:=fun _=>True) (okp:=fun _=>True) rfl (fun _ hk=>hk) trivial (of_decide_eq_true qB46) (Nat.le_trans (Nat.mul_le_mul_right _ (of_decide_eq_true qB46:a1.toNat≤35184372088832)) (by omega)) (Below.refl _ _) (Nat.le_refl _) ?_;intro v286 w39 ho40 hb hg_ hnew_;clear hg_ hnew_;(first|rw [← Ny285.1] at ho40|(simp only [Int.reduceToNat] at ho40;rw [← Ny285.1] at ho40));have n0_:=qAm (Kd.N_elder' qB35 (Kd.R_base ho40) hb);have n1_:=qAm (Kd.R_elder' qB37 (Kd.R_base ho40) hb);have n2_:=qAm (Kd.N_elder' qB38 (Kd.R_base ho40) hb);have n3_:=qAm (Kd.R_elder' qB23 (Kd.R_base ho40) hb);have n4_:=qAm (Kd.R_lower (Kd.R_new' (Kd.R_new' ho40 (Kd.R_lt qB37)) (Kd.R_lt qB23)) (below_size qB7));have n5_:=qAm (blk_below (g:=gb270) (o:=.cells #[.int .i64 t263,.int .i64 t264,.int .i64 t265,u271003] 97 (0,0)) qB22 hb);have n6_:=qAm (below_step qB7 hb);clear HO_10;clear HO_12;clear HO_13;clear HO_271003;clear BK270;clear HB;have HO_10:=n0_;have HO_12:=n1_;have HO_13:=n2_;have HO_271003:=n3_;have HO287:=n4_;have BK270:=n5_;have HB:=n6_;clear n0_ n1_ n2_ n3_ n4_ n5_ n6_;clear hb ho40))
                                      (try simp only [Act.put,qSa,qSb,qSc])
                                      go_cut [] (fun wc=>∃(kq:Nat) (x15_37:List Int),Aside0 (impl_PeriodPolynomial.j3 kq a1 x10_3 x12_3 x13_3 x55_3 x15_37 a1 x43_2 (wrap64 ((x10_2.length:Int)+1)) x55_3 t263 t264 t265 x271003_3=some (r1,r2))∧Aside0 (kq≤k3)∧Aside0 (Kd.N (Kd.slice 2 (Kd.int .i64)) 22 wc w.heap.size (fun k_=>some k_≠((.slice (some ⟨go27,0,none⟩) x12_3.length co27):Value).ownBlock∧some k_≠(u13:Value).ownBlock∧some k_≠(v286:Value).ownBlock∧some k_≠(u271003:Value).ownBlock∧k_≠gb270) (.slice Ao34 x10_3.length co34) x10_3)∧Aside0 (Kd.R (Kd.int .i64) 2 wc w.heap.size (fun k_=>some k_≠(v286:Value).ownBlock∧some k_≠(u271003:Value).ownBlock) (.slice (some ⟨go27,0,none⟩) x12_3.length co27) x12_3)∧Aside0 (Kd.N (Kd.slice 2 (Kd.int .i64)) 22 wc w.heap.size (fun k_=>some k_≠((.slice Ao34 x10_3.length co34):Value).ownBlock∧some k_≠((.slice (some ⟨go27,0,none⟩) x12_3.length co27):Value).ownBlock∧some k_≠(v286:Value).ownBlock∧some k_≠(u271003:Value).ownBlock∧k_≠gb270) u13 x13_3)∧Aside0 (Kd.R (Kd.int .i64) 2 wc w.heap.size (fun k_=>some k_≠((.slice (some ⟨go27,0,none⟩) x12_3.length co27):Value).ownBlock∧some k_≠(u271003:Value).ownBlock) v286 x15_37)∧Aside0 (Kd.R (Kd.int .i64) 2 wc w.heap.size (fun k_=>some k_≠((.slice (some ⟨go27,0,none⟩) x12_3.length co27):Value).ownBlock∧some k_≠(v286:Value).ownBlock) u271003 x271003_3)∧Aside0 (wc.heap[gb270]? =some (.cells #[.int .i64 t263,.int .i64 t264,.int .i64 t265,u271003] 97 (0,0)))∧Aside0 (Below w.heap.size w wc))
                                      case first=>
                                        have H:=HC38.1;clear HC38
                                        by_cases c41:x55_3 > 0
                                        · rw [if_pos c41] at H
                                          have c41b0:decide (0<x55_3)=true:=decide_eq_true c41;clear c41
                                          (first|rw [c41b0]|(simp only [i64_w,i32_w];rw [c41b0])|skip)
                                          obtain⟨ji42,hji42⟩:∃j_:Int,(wrap64 (x55_3 - 1))=j_:=⟨_,rfl⟩
                                          replace H:(if 0≤(ji42) then (if (ji42)<(x10_3.length:Int) then (if y285.length+(rd_L1 x10_3 (ji42)).length<17592186044416 then (impl_PeriodPolynomial.j3 k3 a1 x10_3 x12_3 x13_3 x55_3 (hpp_cp y285 (rd_L1 x10_3 (ji42))) a1 x43_2 (wrap64 ((x10_2.length:Int)+1)) x55_3 t263 t264 t265 x271003_3) else (none)) else (none)) else (none))=some (r1,r2):=by first|(rw [hji42] at H;exact H)|(simp only [hji42] at H ⊢;exact H)
                                          have hji42w:(IntKind.i64.wrap (x55_3 - 1))=ji42:=(i64_w _).trans hji42
                                          by_cases c43:0≤(ji42)
                                          · rw [if_pos c43] at H
                                            have c43b0:decide (0≤(ji42))=true:=decide_eq_true c43;clear c43
                                            by_cases c44:(ji42)<(x10_3.length:Int)
                                            · rw [if_pos c44] at H
                                              have c44b0:decide ((ji42)<(x10_3.length:Int))=true:=decide_eq_true c44;clear c44
                                              by_cases c45:y285.length+(rd_L1 x10_3 (ji42)).length<17592186044416
                                              · rw [if_pos c45] at H
                                                have LMc45:=qAm c45;clear c45;obtain⟨y289,hy289⟩:∃y_:List Int,y_=(hpp_cp y285 (rd_L1 x10_3 (ji42))):=⟨_,rfl⟩
                                                replace H:(impl_PeriodPolynomial.j3 k3 a1 x10_3 x12_3 x13_3 x55_3 y289 a1 x43_2 (wrap64 ((x10_2.length:Int)+1)) x55_3 t263 t264 t265 x271003_3)=some (r1,r2):=by first|(rw [hy289];with_reducible exact H)|(have H2_:=(Option.bind_some _ _).symm.trans H;rw [hy289];with_reducible exact H2_)|(have H2_:=(Option.bind_some _ _).symm.trans H;with_reducible exact H2_)|with_reducible exact H|(rw [hy289];exact H)|exact H
                                                have Ny289:=qAm hy289;clear hy289;have H':=qAm H;clear H;have p288:0≤((ji42):Int):=of_decide_eq_true qB46;have q288:(ji42)<(x10_3.length:Int):=of_decide_eq_true qB46;obtain⟨ad288,A288_0,c288_0,e288,hx288_0,hl288_0,hi288_0⟩:=at_L1 (Kd.N_reads' HO_10.1).2.2 (ji42) p288 q288;cases e288
                                                obtain⟨ce288,hce288,hMe288,hcc288⟩:=Kd.N_get HO_10.1 [] (ji42) p288 (by first|exact q288|exact of_decide_eq_true qB46|(have e_:=(Kd.N_reads' HO_10.1).1;omega));obtain⟨ua288_0,uc288_0,rfl,ul288_0,ge288_0⟩:=Kd.FK_slice_open hMe288;have hv288_0:=hcc288 0 _ rfl;rw [Nat.add_zero,show((Kd.slice 2 (Kd.int .i64))).sz=1 from rfl,Nat.mul_one] at hv288_0;replace hv288_0:=Option.some.inj (hv288_0.symm.trans hx288_0);injection hv288_0 with hva_ hvn_ hvc_
                                                rw [hva_] at ge288_0;rw [hvc_] at ul288_0;have HL288_0:=qAm (show Kd.V (Kd.int .i64) 2 _ w.heap.size _ _ (rd_L1 x10_3 (ji42)) from Kd.V_mk ul288_0 ge288_0);clear hva_ hvn_ hvc_ ge288_0 ul288_0 hcc288 hce288;have HR288_0:=qAm hi288_0;have HC288_0:=qAm hl288_0;clear hi288_0 hl288_0;replace p288:=eq_true p288;replace q288:=eq_true q288;obtain⟨w46,hrun_,ho,hg⟩:=hpp_copy (c:=c288_0) (W:=w39) (base:=w.heap.size) (ok:=(fun k_=>some k_≠(.slice (some ⟨go27,0,none⟩) x12_3.length co27:Value).ownBlock∧some k_≠(u271003:Value).ownBlock)) (v:=v286) (xs:=y285) (ys:=(rd_L1 x10_3 (ji42))) (by (with_reducible repeat(first|apply Kd.R_alloc|apply Kd.R_drewN|apply Kd.R_drew));exact Kd.R_mono HO287.1 (fun _ hk=>⟨hk.1.2,hk.2⟩)) (HR288_0.1);have hb:Below w.heap.size w w46:=Below.grown HB.1 hg (below_size HB.1) (fun k_ e_=>Kd.R_base ho k_ e_);rw [← Ny289.1] at ho;have n0_:=qAm (Kd.N_afterv (ok:=(fun k_=>some k_≠(.slice (some ⟨go27,0,none⟩) x12_3.length co27:Value).ownBlock∧some k_≠(u13:Value).ownBlock∧some k_≠(u271003:Value).ownBlock∧k_≠gb270)) qB35 hg (.inl rfl));have n1_:=qAm (Kd.R_after (ok:=(fun k_=>some k_≠(u271003:Value).ownBlock)) qB37 hg (.inl rfl));have n2_:=qAm (Kd.N_afterv (ok:=(fun k_=>some k_≠(.slice (some ad288) x10_3.length co34:Value).ownBlock∧some k_≠(.slice (some ⟨go27,0,none⟩) x12_3.length co27:Value).ownBlock∧some k_≠(u271003:Value).ownBlock∧k_≠gb270)) qB38 hg (.inl rfl));have n3_:=qAm (Kd.R_after (ok:=(fun k_=>some k_≠(.slice (some ⟨go27,0,none⟩) x12_3.length co27:Value).ownBlock)) qB23 hg (.inl rfl));have n4_:=qAm (blk_grown (g:=gb270) (o:=.cells #[.int .i64 t263,.int .i64 t264,.int .i64 t265,u271003] 97 (0,0)) qB22 hg (Kd.R_ne HO287.1 BK270.1 (by decide)));have n5_:=qAm (Kd.V_afterv (ok:=(fun k_=>some k_≠(.slice (some ad288) x10_3.length co34:Value).ownBlock∧some k_≠(.slice (some ⟨go27,0,none⟩) x12_3.length co27:Value).ownBlock∧some k_≠(u13:Value).ownBlock∧some k_≠(u271003:Value).ownBlock∧k_≠gb270)) (by (with_reducible repeat(first|apply Kd.V_alloc|apply Kd.V_drewN|apply Kd.V_drew));exact Kd.V_mono HL288_0.1 (fun _ hk=>⟨⟨hk.2,⟨hk.1.1.1,⟨hk.1.1.2.1,⟨hk.1.1.2.2.1,hk.1.1.2.2.2⟩⟩⟩⟩,hk.1.2⟩)) hg (.inl rfl));have n6_:=qAm (hb);have n7_:=qAm (ho);clear HO_10 HO_12 HO_13 HO_271003 BK270 HL288_0 HB HO287;have HO_10:=n0_;have HO_12:=n1_;have HO_13:=n2_;have HO_271003:=n3_;have BK270:=n4_;have HL288_0:=n5_;have HB:=n6_;have HO291:=n7_;clear n0_ n1_ n2_ n3_ n4_ n5_ n6_ n7_ ho hb hg;go_wp2;go_meet
                                                case rel=>exact⟨_,(y289),H',⟨by have:=HK1.1;have:=HK2.1;have:=HK3.1;first|omega|exact Nat.le_refl _⟩,⟨by (try simp only [hl8_1]);(try simp only [hl10_3]);(try simp only [hl12_3]);(with_reducible repeat(first|apply Kd.N_alloc|apply Kd.N_drewN|apply Kd.N_drew));exact Kd.N_mono HO_10.1 (fun _ hk=>⟨hk.1.1,⟨hk.1.2.1,⟨hk.2,⟨hk.1.2.2.1,hk.1.2.2.2⟩⟩⟩⟩)⟩,⟨by (try simp only [hl8_1]);(try simp only [hl10_3]);(try simp only [hl12_3]);(with_reducible repeat(first|apply Kd.R_alloc|apply Kd.R_drewN|apply Kd.R_drew));exact Kd.R_mono HO_12.1 (fun _ hk=>⟨hk.2,hk.1⟩)⟩,⟨by (try simp only [hl8_1]);(try simp only [hl10_3]);(try simp only [hl12_3]);(with_reducible repeat(first|apply Kd.N_alloc|apply Kd.N_drewN|apply Kd.N_drew));exact Kd.N_mono HO_13.1 (fun _ hk=>⟨hk.1.1,⟨hk.1.2.1,⟨hk.2,⟨hk.1.2.2.1,hk.1.2.2.2⟩⟩⟩⟩)⟩,⟨by (try simp only [hl8_1]);(try simp only [hl10_3]);(try simp only [hl12_3]);(with_reducible repeat(first|apply Kd.R_alloc|apply Kd.R_drewN|apply Kd.R_drew));exact HO291.1⟩,⟨by (try simp only [hl8_1]);(try simp only [hl10_3]);(try simp only [hl12_3]);(with_reducible repeat(first|apply Kd.R_alloc|apply Kd.R_drewN|apply Kd.R_drew));exact HO_271003.1⟩,⟨by (try simp only [hl8_1]);(try simp only [hl10_3]);(try simp only [hl12_3]);(with_reducible repeat(first|refine blk_drewN ?_ _|refine blk_drew ?_|refine blk_alloc ?_ _));exact BK270.1⟩,⟨by repeat(first|(with_reducible first|exact HB.1|apply below_alloc|apply pw_below_drewN|apply below_drew1|refine below_set ?_ GE270.1)|exact HB.1)⟩⟩
                                              · rw [if_neg c45] at H
                                                exact absurd H (by simp)
                                            · rw [if_neg c44] at H
                                              exact absurd H (by simp)
                                          · rw [if_neg c43] at H
                                            exact absurd H (by simp)
                                        · rw [if_neg c41] at H
                                          have c41b0:decide (0<x55_3)=false:=decide_eq_false c41;clear c41
                                          (first|rw [c41b0]|(simp only [i64_w,i32_w];rw [c41b0])|skip)
                                          have H':=qAm H;clear H;go_wp2;go_meet
                                          case rel=>exact⟨_,(y285),H',⟨by have:=HK1.1;have:=HK2.1;have:=HK3.1;first|omega|exact Nat.le_refl _⟩,⟨by (try simp only [hl8_1]);(try simp only [hl10_3]);(try simp only [hl12_3]);(with_reducible repeat(first|apply Kd.N_alloc|apply Kd.N_drewN|apply Kd.N_drew));exact Kd.N_mono HO_10.1 (fun _ hk=>⟨hk.1.1,⟨hk.1.2.1,⟨hk.2,⟨hk.1.2.2.1,hk.1.2.2.2⟩⟩⟩⟩)⟩,⟨by (try simp only [hl8_1]);(try simp only [hl10_3]);(try simp only [hl12_3]);(with_reducible repeat(first|apply Kd.R_alloc|apply Kd.R_drewN|apply Kd.R_drew));exact Kd.R_mono HO_12.1 (fun _ hk=>⟨hk.2,hk.1⟩)⟩,⟨by (try simp only [hl8_1]);(try simp only [hl10_3]);(try simp only [hl12_3]);(with_reducible repeat(first|apply Kd.N_alloc|apply Kd.N_drewN|apply Kd.N_drew));exact Kd.N_mono HO_13.1 (fun _ hk=>⟨hk.1.1,⟨hk.1.2.1,⟨hk.2,⟨hk.1.2.2.1,hk.1.2.2.2⟩⟩⟩⟩)⟩,⟨by (try simp only [hl8_1]);(try simp only [hl10_3]);(try simp only [hl12_3]);(with_reducible repeat(first|apply Kd.R_alloc|apply Kd.R_drewN|apply Kd.R_drew));exact Kd.R_mono HO287.1 (fun _ hk=>⟨hk.1.2,hk.2⟩)⟩,⟨by (try simp only [hl8_1]);(try simp only [hl10_3]);(try simp only [hl12_3]);(with_reducible repeat(first|apply Kd.R_alloc|apply Kd.R_drewN|apply Kd.R_drew));exact HO_271003.1⟩,⟨by (try simp only [hl8_1]);(try simp only [hl10_3]);(try simp only [hl12_3]);(with_reducible repeat(first|refine blk_drewN ?_ _|refine blk_drew ?_|refine blk_alloc ?_ _));exact BK270.1⟩,⟨by repeat(first|(with_reducible first|exact HB.1|apply below_alloc|apply pw_below_drewN|apply below_drew1|refine below_set ?_ GE270.1)|exact HB.1)⟩⟩
                                      case rest=>
                                        clear HC38;try clear c1
                                        try clear p1
                                        try clear q1
                                        try clear hx1
                                        try clear c2
                                        try clear p2
                                        try clear q2
                                        try clear hx2
                                        try clear hf2
                                        try clear c3
                                        try clear c4
                                        try clear c5
                                        try clear c5b0
                                        try clear c5b1
                                        try clear c6
                                        try clear c6b0
                                        try clear c6b1
                                        try clear p6
                                        try clear c8
                                        try clear c14
                                        try clear c14b0
                                        try clear c15
                                        try clear c15b0
                                        try clear c16
                                        try clear c16b0
                                        try clear p17
                                        try clear q17
                                        try clear hx17
                                        try clear hf17
                                        try clear c22
                                        try clear c22b0
                                        try clear c23
                                        try clear c23b0
                                        try clear c23b1
                                        try clear c24
                                        try clear c24b0
                                        try clear c24b1
                                        try clear c25
                                        try clear c25b0
                                        try clear c26
                                        try clear c26b0
                                        try clear p27
                                        try clear q27
                                        try clear hx27
                                        try clear hf27
                                        try clear c28
                                        try clear p28
                                        try clear q28
                                        try clear hx28
                                        try clear c35
                                        try clear c35b0
                                        try clear c36
                                        try clear c36b0
                                        try clear c36b1
                                        try clear c37
                                        try clear c37b0
                                        try clear c37b1
                                        try clear c41
                                        try clear c41b0
                                        try clear c43
                                        try clear c43b0
                                        try clear c44
                                        try clear c44b0
                                        try clear c45
                                        try clear hcz9_0
                                        try clear hcz9_1
                                        try clear hcz9_2
                                        try clear hcz9_3
                                        try clear hfz9_0
                                        try clear hfz9_1
                                        try clear hfz9_2
                                        try clear hfz9_3
                                        try clear hx17_0
                                        try clear hx27_0
                                        try clear hx288_0
                                        try clear p1
                                        try clear p17
                                        try clear p2
                                        try clear p27
                                        try clear p288
                                        try clear p6
                                        try clear q1
                                        try clear q17
                                        try clear q2
                                        try clear q27
                                        try clear q288
                                        obtain⟨kq,x15_37,HA,HJ37,HO_10,HO_12,HO_13,HO_15,HO_271003,BK270,HB⟩:=hcut;cases kq with
                                        |zero=>exact absurd HA.1 (by simp [impl_PeriodPolynomial.j3])
                                        |succ kj37=>
                                          have H:=HA.1;clear HA;simp only [impl_PeriodPolynomial.j3] at H
                                          by_cases c47:x55_3<(x10_3.length:Int)
                                          · rw [if_pos c47] at H
                                            have c47b0:decide (x55_3<(x10_3.length:Int))=true:=decide_eq_true c47;clear c47
                                            by_cases c48:0≤x55_3
                                            · rw [if_pos c48] at H
                                              have c48b0:decide (0≤x55_3)=true:=decide_eq_true c48;clear c48;replace H:=qOb H;obtain⟨t293,A490,H⟩:=H;replace H:(impl_PeriodPolynomial.l3 kj37 a1 x10_3 x12_3 x13_3 x15_37 a1 x43_2 (wrap64 ((x10_2.length:Int)+1)) x55_3 t293 (t293.length:Int) 0 t263 t264 t265 x271003_3)=some (r1,r2):=H;have A49:=qAm A490;clear A490;have H':=qAm H;clear H;have p292:0≤(x55_3:Int):=of_decide_eq_true qB46;have q292:x55_3<(x10_3.length:Int):=of_decide_eq_true qB46;obtain⟨ad292,A292_0,c292_0,e292,hx292_0,hl292_0,hi292_0⟩:=at_L1 (Kd.N_reads' HO_10.1).2.2 x55_3 p292 q292;cases e292
                                              obtain⟨ce292,hce292,hMe292,hcc292⟩:=Kd.N_get HO_10.1 [] x55_3 p292 (by first|exact q292|exact of_decide_eq_true qB46|(have e_:=(Kd.N_reads' HO_10.1).1;omega));obtain⟨ua292_0,uc292_0,rfl,ul292_0,ge292_0⟩:=Kd.FK_slice_open hMe292;have hv292_0:=hcc292 0 _ rfl;rw [Nat.add_zero,show((Kd.slice 2 (Kd.int .i64))).sz=1 from rfl,Nat.mul_one] at hv292_0;replace hv292_0:=Option.some.inj (hv292_0.symm.trans hx292_0);injection hv292_0 with hva_ hvn_ hvc_
                                              rw [hva_] at ge292_0;rw [hvc_] at ul292_0;have HL292_0:=qAm (show Kd.V (Kd.int .i64) 2 _ w.heap.size _ _ (rd_L1 x10_3 x55_3) from Kd.V_mk ul292_0 ge292_0);clear hva_ hvn_ hvc_ ge292_0 ul292_0 hcc292 hce292;have HR292_0:=qAm hi292_0;have HC292_0:=qAm hl292_0;clear hi292_0 hl292_0;replace p292:=eq_true p292;replace q292:=eq_true q292;have hcz50_0:wc.cell? ⟨gb270,0,none⟩=some (.int .i64 t263):=(blk_cell BK270.1 0).trans rfl;have hcz50_1:wc.cell? ⟨gb270,1,none⟩=some (.int .i64 t264):=(blk_cell BK270.1 1).trans rfl;have hcz50_2:wc.cell? ⟨gb270,2,none⟩=some (.int .i64 t265):=(blk_cell BK270.1 2).trans rfl;have hcz50_3:wc.cell? ⟨gb270,3,none⟩=some (u271003):=(blk_cell BK270.1 3).trans rfl;have hfz50_0:=blk_frozen BK270.1 0;have hfz50_1:=blk_frozen BK270.1 1;have hfz50_2:=blk_frozen BK270.1 2;have hfz50_3:=blk_frozen BK270.1 3;obtain⟨Ao51,co51,eo51⟩:=Kd.R_slice HO_271003.1;subst eo51;go_wp2_with (first|((with_reducible refine gate_callee (f:=82) rfl ?_);refine goesL_ (some 78) rfl rfl Try.func82 (by kernel_rfl) rfl #[.pointer (some ⟨gb270,0,none⟩),.slice (some ⟨go27,0,none⟩) x12_3.length co27,.slice A292_0 (rd_L1 x10_3 x55_3).length c292_0] rfl qB15 ?_;have tst_:=(hpp_here kj37 gb270 co51 co27 c292_0 t263 t264 t265 x271003_3 x12_3 (rd_L1 x10_3 x55_3) t293 Ao51 (some ⟨go27,0,none⟩) A292_0 _ BK270.1 HU_.1 (Kd.R_reads' HO_271003.1).2.2 (Kd.R_reads' HO_12.1).2.2 (Kd.R_reads' HO_12.1).2.1 (by intro ad he hn e_;cases he;exact(Kd.R_ne HO_12.1 BK270.1 (by decide)) (by rw [← e_];rfl)) HR292_0.1 HC292_0.1 (by intro ad he hn;have hv_:=HL292_0.1;rw [he] at hv_;exact hand_V_blk hv_ (decide_eq_true (by omega)) (fun k_ hk=>by grind)) A49.1);refine Calls.mono tst_ ?_;clear tst_;rintro e w52 ⟨v294,rfl,ho0,hb⟩;refine⟨_,rfl,?_⟩;have n0_:=qAm (Kd.N_elder' qB35 (Kd.R_base ho0) hb);have n1_:=qAm (Kd.R_elder' qB37 (Kd.R_base ho0) hb);have n2_:=qAm (Kd.N_elder' qB38 (Kd.R_base ho0) hb);have n3_:=qAm (Kd.R_elder' qB32 (Kd.R_base ho0) hb);have n4_:=qAm (Kd.R_elder' qB23 (Kd.R_base ho0) hb);have n5_:=qAm (Kd.V_elder' (by (with_reducible repeat(first|apply Kd.V_alloc|apply Kd.V_drewN|apply Kd.V_drew));exact HL292_0.1) (Kd.R_base ho0) hb);have n6_:=qAm (Kd.R_lower (Kd.R_new' (Kd.R_new' (Kd.R_new' ho0 (Kd.R_lt qB37)) (Kd.R_lt qB32)) (Kd.R_lt qB23)) (below_size qB7));have n7_:=qAm (blk_below (g:=gb270) (o:=.cells #[.int .i64 t263,.int .i64 t264,.int .i64 t265,.slice Ao51 x271003_3.length co51] 97 (0,0)) qB22 hb);have n8_:=qAm (Kd.C_below (by repeat(first|(with_reducible exact HR292_0.1)|(with_reducible refine Kd.C_alloc ?_ _)|(with_reducible refine Kd.C_drewN ?_ _)|(with_reducible refine Kd.C_drew ?_)|exact HR292_0.1)) hb);have n9_:=qAm (below_step qB7 hb);clear HO_10;clear HO_12;clear HO_13;clear HO_15;clear HO_271003;clear HL292_0;clear BK270;clear HR292_0;clear HB;have HO_10:=n0_;have HO_12:=n1_;have HO_13:=n2_;have HO_15:=n3_;have HO_271003:=n4_;have HL292_0:=n5_;have HO295:=n6_;have BK270:=n7_;have HR292_0:=n8_;have HB:=n9_;clear n0_ n1_ n2_ n3_ n4_ n5_ n6_ n7_ n8_ n9_;(try clear hb);(try clear hb2);(try clear hk);(try clear hi);(try clear ho0);obtain⟨Ao53,co53,eo53⟩:=Kd.R_slice HO295.1;subst eo53));try simp only [Act.put,qSa,qSc,qSb]
                                              go_loopg [80] kj37 (fun kq v80 w'=>∃(x15_5:List Int) (x80_5:Int),v80=.int .i64 x80_5∧Aside0 (impl_PeriodPolynomial.l3 kq a1 x10_3 x12_3 x13_3 x15_5 a1 x43_2 (wrap64 ((x10_2.length:Int)+1)) x55_3 t293 (t293.length:Int) x80_5 t263 t264 t265 x271003_3=some (r1,r2))∧Aside0 (kq≤kj37)∧Aside0 (Kd.N (Kd.slice 2 (Kd.int .i64)) 22 w' w.heap.size (fun k_=>some k_≠((.slice (some ⟨go27,0,none⟩) x12_3.length co27):Value).ownBlock∧some k_≠(u13:Value).ownBlock∧some k_≠(v286:Value).ownBlock∧some k_≠((.slice Ao53 t293.length co53):Value).ownBlock∧some k_≠((.slice Ao51 x271003_3.length co51):Value).ownBlock∧k_≠gb270) (.slice (some ad292) x10_3.length co34) x10_3)∧Aside0 (Kd.R (Kd.int .i64) 2 w' w.heap.size (fun k_=>some k_≠(v286:Value).ownBlock∧some k_≠((.slice Ao53 t293.length co53):Value).ownBlock∧some k_≠((.slice Ao51 x271003_3.length co51):Value).ownBlock) (.slice (some ⟨go27,0,none⟩) x12_3.length co27) x12_3)∧Aside0 (Kd.N (Kd.slice 2 (Kd.int .i64)) 22 w' w.heap.size (fun k_=>some k_≠((.slice (some ad292) x10_3.length co34):Value).ownBlock∧some k_≠((.slice (some ⟨go27,0,none⟩) x12_3.length co27):Value).ownBlock∧some k_≠(v286:Value).ownBlock∧some k_≠((.slice Ao53 t293.length co53):Value).ownBlock∧some k_≠((.slice Ao51 x271003_3.length co51):Value).ownBlock∧k_≠gb270) u13 x13_3)∧Aside0 (Kd.R (Kd.int .i64) 2 w' w.heap.size (fun k_=>some k_≠((.slice (some ⟨go27,0,none⟩) x12_3.length co27):Value).ownBlock∧some k_≠((.slice Ao53 t293.length co53):Value).ownBlock∧some k_≠((.slice Ao51 x271003_3.length co51):Value).ownBlock) v286 x15_5)∧Aside0 (Kd.R (Kd.int .i64) 2 w' w.heap.size (fun k_=>some k_≠((.slice (some ⟨go27,0,none⟩) x12_3.length co27):Value).ownBlock∧some k_≠(v286:Value).ownBlock∧some k_≠((.slice Ao51 x271003_3.length co51):Value).ownBlock) (.slice Ao53 t293.length co53) t293)∧Aside0 (Kd.R (Kd.int .i64) 2 w' w.heap.size (fun k_=>some k_≠((.slice (some ⟨go27,0,none⟩) x12_3.length co27):Value).ownBlock∧some k_≠(v286:Value).ownBlock∧some k_≠((.slice Ao53 t293.length co53):Value).ownBlock) (.slice Ao51 x271003_3.length co51) x271003_3)∧Aside0 (w'.heap[gb270]? =some (.cells #[.int .i64 t263,.int .i64 t264,.int .i64 t265,(.slice Ao51 x271003_3.length co51)] 97 (0,0)))∧Aside0 (Below w.heap.size w w'))
                                              case atStart=>exact⟨(x15_37),(0),qB47,H',⟨Nat.le_refl _⟩,⟨by (try simp only [hl8_1]);(try simp only [hl10_3]);(try simp only [hl12_3]);(with_reducible repeat(first|apply Kd.N_alloc|apply Kd.N_drewN|apply Kd.N_drew));exact Kd.N_mono HO_10.1 (fun _ hk=>⟨hk.1.1,⟨hk.1.2.1,⟨hk.1.2.2.1,⟨hk.2,⟨hk.1.2.2.2.1,hk.1.2.2.2.2⟩⟩⟩⟩⟩)⟩,⟨by (try simp only [hl8_1]);(try simp only [hl10_3]);(try simp only [hl12_3]);(with_reducible repeat(first|apply Kd.R_alloc|apply Kd.R_drewN|apply Kd.R_drew));exact Kd.R_mono HO_12.1 (fun _ hk=>⟨hk.1.1,⟨hk.2,hk.1.2⟩⟩)⟩,⟨by (try simp only [hl8_1]);(try simp only [hl10_3]);(try simp only [hl12_3]);(with_reducible repeat(first|apply Kd.N_alloc|apply Kd.N_drewN|apply Kd.N_drew));exact Kd.N_mono HO_13.1 (fun _ hk=>⟨hk.1.1,⟨hk.1.2.1,⟨hk.1.2.2.1,⟨hk.2,⟨hk.1.2.2.2.1,hk.1.2.2.2.2⟩⟩⟩⟩⟩)⟩,⟨by (try simp only [hl8_1]);(try simp only [hl10_3]);(try simp only [hl12_3]);(with_reducible repeat(first|apply Kd.R_alloc|apply Kd.R_drewN|apply Kd.R_drew));exact Kd.R_mono HO_15.1 (fun _ hk=>⟨hk.1.1,⟨hk.2,hk.1.2⟩⟩)⟩,⟨by (try simp only [hl8_1]);(try simp only [hl10_3]);(try simp only [hl12_3]);(with_reducible repeat(first|apply Kd.R_alloc|apply Kd.R_drewN|apply Kd.R_drew));exact Kd.R_mono HO295.1 (fun _ hk=>⟨hk.1.1.2,⟨hk.1.2,hk.2⟩⟩)⟩,⟨by (try simp only [hl8_1]);(try simp only [hl10_3]);(try simp only [hl12_3]);(with_reducible repeat(first|apply Kd.R_alloc|apply Kd.R_drewN|apply Kd.R_drew));exact Kd.R_mono HO_271003.1 (fun _ hk=>⟨hk.1.1,⟨hk.1.2,hk.2⟩⟩)⟩,⟨by (try simp only [hl8_1]);(try simp only [hl10_3]);(try simp only [hl12_3]);(with_reducible repeat(first|refine blk_drewN ?_ _|refine blk_drew ?_|refine blk_alloc ?_ _));exact BK270.1⟩,⟨by repeat(first|(with_reducible first|exact HB.1|apply below_alloc|apply pw_below_drewN|apply below_drew1|refine below_set ?_ GE270.1)|exact HB.1)⟩⟩
                                              case round=>
                                                clear H';try clear c1
                                                try clear p1
                                                try clear q1
                                                try clear hx1
                                                try clear c2
                                                try clear p2
                                                try clear q2
                                                try clear hx2
                                                try clear hf2
                                                try clear c3
                                                try clear c4
                                                try clear c5
                                                try clear c5b0
                                                try clear c5b1
                                                try clear c6
                                                try clear c6b0
                                                try clear c6b1
                                                try clear p6
                                                try clear c8
                                                try clear c14
                                                try clear c14b0
                                                try clear c15
                                                try clear c15b0
                                                try clear c16
                                                try clear c16b0
                                                try clear p17
                                                try clear q17
                                                try clear hx17
                                                try clear hf17
                                                try clear c22
                                                try clear c22b0
                                                try clear c23
                                                try clear c23b0
                                                try clear c23b1
                                                try clear c24
                                                try clear c24b0
                                                try clear c24b1
                                                try clear c25
                                                try clear c25b0
                                                try clear c26
                                                try clear c26b0
                                                try clear p27
                                                try clear q27
                                                try clear hx27
                                                try clear hf27
                                                try clear c28
                                                try clear p28
                                                try clear q28
                                                try clear hx28
                                                try clear c29
                                                try clear p29
                                                try clear q29
                                                try clear hx29
                                                try clear c35
                                                try clear c35b0
                                                try clear c36
                                                try clear c36b0
                                                try clear c36b1
                                                try clear c37
                                                try clear c37b0
                                                try clear c37b1
                                                try clear c41
                                                try clear c41b0
                                                try clear c43
                                                try clear c43b0
                                                try clear c44
                                                try clear c44b0
                                                try clear c45
                                                try clear c47
                                                try clear c47b0
                                                try clear c48
                                                try clear c48b0
                                                try clear hcz50_0
                                                try clear hcz50_1
                                                try clear hcz50_2
                                                try clear hcz50_3
                                                try clear hcz9_0
                                                try clear hcz9_1
                                                try clear hcz9_2
                                                try clear hcz9_3
                                                try clear hfz50_0
                                                try clear hfz50_1
                                                try clear hfz50_2
                                                try clear hfz50_3
                                                try clear hfz9_0
                                                try clear hfz9_1
                                                try clear hfz9_2
                                                try clear hfz9_3
                                                try clear hx17_0
                                                try clear hx27_0
                                                try clear hx288_0
                                                try clear hx292_0
                                                try clear p1
                                                try clear p17
                                                try clear p2
                                                try clear p27
                                                try clear p28
                                                try clear p288
                                                try clear p292
                                                try clear p6
                                                try clear q1
                                                try clear q17
                                                try clear q2
                                                try clear q27
                                                try clear q28
                                                try clear q288
                                                try clear q292
                                                obtain⟨x15_5,x80_5,rfl,HA,HK5,HO_10,HO_12,HO_13,HO_15,HO_78,HO_271003,BK270,HB⟩:=hrel;cases gk with
                                                |zero=>exact absurd HA.1 (by simp [impl_PeriodPolynomial.l3])
                                                |succ k5=>
                                                  have H:=HA.1;clear HA;simp only [impl_PeriodPolynomial.l3] at H
                                                  by_cases c54:x80_5<(t293.length:Int)
                                                  · rw [if_pos c54] at H
                                                    have c54b0:decide (x80_5<(t293.length:Int))=true:=decide_eq_true c54;clear c54
                                                    by_cases c55:0≤x80_5
                                                    · rw [if_pos c55] at H
                                                      have c55b0:decide (0≤x80_5)=true:=decide_eq_true c55;clear c55
                                                      by_cases c56:x80_5<(t293.length:Int)
                                                      · rw [if_pos c56] at H
                                                        have c56b0:decide (x80_5<(t293.length:Int))=true:=decide_eq_true c56;clear c56
                                                        by_cases c57:x80_5<(x15_5.length:Int)
                                                        · rw [if_pos c57] at H
                                                          have c57b0:decide (x80_5<(x15_5.length:Int))=true:=decide_eq_true c57;clear c57;obtain⟨y298,hy298⟩:∃y_:List Int,y_=(x15_5.set (x80_5:Int).toNat (wrap64 ((rd x15_5 x80_5) - (rd t293 x80_5)))):=⟨_,rfl⟩
                                                          replace H:(impl_PeriodPolynomial.l3 k5 a1 x10_3 x12_3 x13_3 y298 a1 x43_2 (wrap64 ((x10_2.length:Int)+1)) x55_3 t293 (t293.length:Int) (wrap64 (x80_5+1)) t263 t264 t265 x271003_3)=some (r1,r2):=by first|(rw [hy298];with_reducible exact H)|(have H2_:=(Option.bind_some _ _).symm.trans H;rw [hy298];with_reducible exact H2_)|(have H2_:=(Option.bind_some _ _).symm.trans H;with_reducible exact H2_)|with_reducible exact H|(rw [hy298];exact H)|exact H
                                                          have Ny298:=qAm hy298;clear hy298;have H':=qAm H;clear H;have p296:0≤(x80_5:Int):=of_decide_eq_true qB46;have q296:x80_5<(t293.length:Int):=of_decide_eq_true qB46;obtain⟨ad296,e296,hx296_0⟩:=Kd.at_int (Kd.R_reads' HO_78.1).2.2 x80_5 p296 q296;cases e296
                                                          replace p296:=eq_true p296;replace q296:=eq_true q296;obtain⟨Ao59,co59,eo59⟩:=Kd.R_slice HO_15.1;subst eo59;have p297:0≤(x80_5:Int):=of_decide_eq_true qB46;have q297:x80_5<(x15_5.length:Int):=of_decide_eq_true qB46;obtain⟨ad297,e297,hx297_0⟩:=Kd.at_int (Kd.R_reads' HO_15.1).2.2 x80_5 p297 q297;cases e297
                                                          replace p297:=eq_true p297;replace q297:=eq_true q297;have p58:0≤(x80_5:Int):=of_decide_eq_true qB46;have q58:(x80_5:Int)<((x15_5.length:Int):Int):=of_decide_eq_true qB46;obtain⟨go58,co58,eo58,gb58,gl58,cl58,HG58⟩:=Kd.R_form HO_15.1 (by omega)
                                                          (first|cases eo58|(injection eo58 with ea_ en_ ec_;(first|subst ea_|(injection ea_ with ea_;subst ea_));subst ec_;clear en_))
                                                          have GB58:=qAm gb58;have GG58:=qAm HG58;clear gb58 gl58 HG58
                                                          (first|simp only [add_plain] at hx297_0|skip)
                                                          obtain⟨hx58_0,hf58_0⟩:=Kd.R_celln 0 HO_15.1 (x80_5:Int) p58 q58;replace p58:=eq_true p58;replace q58:=eq_true q58;have HP60:=Kd.R_putg HO_15.1 (x80_5:Int) (wrap64 ((rd x15_5 x80_5) - (rd t293 x80_5)));go_wp2_with (first|((with_reducible refine gate_store (t:=2) (p:=91) rfl ?_);refine store_event (t:=2) (p:=91) (v:=?vo_w61) (w1:=(wr.setCell ⟨go58,(x80_5:Int).toNat,none⟩ (.int .i64 (wrap64 ((rd x15_5 x80_5) - (rd t293 x80_5)))))) ?hg ?ho ?hn ?hr ?_;(case ho=>rfl);(case hg=>rfl);(case hn=>rfl);(case hr=>first|(go_simp;done)|(go_simp;rfl));intro w61 hw;have hg:wr.grownBy w61 (some go58):=(by rw [hw];exact HP60.2);have hp_:Kd.R (Kd.int .i64) 2 w61 w.heap.size (fun k_=>some k_≠(.slice (some ⟨go27,0,none⟩) x12_3.length co27:Value).ownBlock∧some k_≠(.slice (some ad296) t293.length co53:Value).ownBlock∧some k_≠(.slice Ao51 x271003_3.length co51:Value).ownBlock) (.slice (some ⟨go58,0,none⟩) x15_5.length co59) y298:=(by rw [hw,Ny298.1];exact HP60.1);clear HP60;have n0_:=qAm (Kd.N_afterv (v:=(.slice (some ⟨go58,0,none⟩) x15_5.length co59)) (v1:=(.slice (some ⟨go58,0,none⟩) x15_5.length co59)) (ok:=(fun k_=>some k_≠(.slice (some ⟨go27,0,none⟩) x12_3.length co27:Value).ownBlock∧some k_≠(u13:Value).ownBlock∧some k_≠(.slice (some ad296) t293.length co53:Value).ownBlock∧some k_≠(.slice Ao51 x271003_3.length co51:Value).ownBlock∧k_≠gb270)) (by (with_reducible repeat(first|apply Kd.N_alloc|apply Kd.N_drewN|apply Kd.N_drew));exact Kd.N_mono HO_10.1 (fun _ hk=>⟨⟨hk.1,⟨hk.2.1,⟨hk.2.2.2.1,⟨hk.2.2.2.2.1,hk.2.2.2.2.2⟩⟩⟩⟩,hk.2.2.1⟩)) hg (.inl rfl));have n1_:=qAm (Kd.R_after (v:=(.slice (some ⟨go58,0,none⟩) x15_5.length co59)) (v1:=(.slice (some ⟨go58,0,none⟩) x15_5.length co59)) (ok:=(fun k_=>some k_≠(.slice (some ad296) t293.length co53:Value).ownBlock∧some k_≠(.slice Ao51 x271003_3.length co51:Value).ownBlock)) (by (with_reducible repeat(first|apply Kd.R_alloc|apply Kd.R_drewN|apply Kd.R_drew));exact Kd.R_mono HO_12.1 (fun _ hk=>⟨⟨hk.2.1,hk.2.2⟩,hk.1⟩)) hg (.inl rfl));have n2_:=qAm (Kd.N_afterv (v:=(.slice (some ⟨go58,0,none⟩) x15_5.length co59)) (v1:=(.slice (some ⟨go58,0,none⟩) x15_5.length co59)) (ok:=(fun k_=>some k_≠(.slice (some ad292) x10_3.length co34:Value).ownBlock∧some k_≠(.slice (some ⟨go27,0,none⟩) x12_3.length co27:Value).ownBlock∧some k_≠(.slice (some ad296) t293.length co53:Value).ownBlock∧some k_≠(.slice Ao51 x271003_3.length co51:Value).ownBlock∧k_≠gb270)) (by (with_reducible repeat(first|apply Kd.N_alloc|apply Kd.N_drewN|apply Kd.N_drew));exact Kd.N_mono HO_13.1 (fun _ hk=>⟨⟨hk.1,⟨hk.2.1,⟨hk.2.2.2.1,⟨hk.2.2.2.2.1,hk.2.2.2.2.2⟩⟩⟩⟩,hk.2.2.1⟩)) hg (.inl rfl));have n3_:=qAm (hp_);have n4_:=qAm (Kd.R_after (v:=(.slice (some ⟨go58,0,none⟩) x15_5.length co59)) (v1:=(.slice (some ⟨go58,0,none⟩) x15_5.length co59)) (ok:=(fun k_=>some k_≠(.slice (some ⟨go27,0,none⟩) x12_3.length co27:Value).ownBlock∧some k_≠(.slice Ao51 x271003_3.length co51:Value).ownBlock)) (by (with_reducible repeat(first|apply Kd.R_alloc|apply Kd.R_drewN|apply Kd.R_drew));exact Kd.R_mono HO_78.1 (fun _ hk=>⟨⟨hk.1,hk.2.2⟩,hk.2.1⟩)) hg (.inl rfl));have n5_:=qAm (Kd.R_after (v:=(.slice (some ⟨go58,0,none⟩) x15_5.length co59)) (v1:=(.slice (some ⟨go58,0,none⟩) x15_5.length co59)) (ok:=(fun k_=>some k_≠(.slice (some ⟨go27,0,none⟩) x12_3.length co27:Value).ownBlock∧some k_≠(.slice (some ad296) t293.length co53:Value).ownBlock)) (by (with_reducible repeat(first|apply Kd.R_alloc|apply Kd.R_drewN|apply Kd.R_drew));exact Kd.R_mono HO_271003.1 (fun _ hk=>⟨⟨hk.1,hk.2.2⟩,hk.2.1⟩)) hg (.inl rfl));have n6_:=qAm (blk_grown (g:=gb270) (o:=.cells #[.int .i64 t263,.int .i64 t264,.int .i64 t265,.slice Ao51 x271003_3.length co51] 97 (0,0)) qB22 hg (Kd.R_ne HO_15.1 BK270.1 (by decide)));have n7_:=qAm ((by rw [hw];exact below_set (HB.1) GB58.1:Below w.heap.size w w61));clear HO_10;clear HO_12;clear HO_13;clear HO_15;clear HO_78;clear HO_271003;clear BK270;clear HB;have HO_10:=n0_;have HO_12:=n1_;have HO_13:=n2_;have HO_15:=n3_;have HO_78:=n4_;have HO_271003:=n5_;have BK270:=n6_;have HB:=n7_;clear n0_ n1_ n2_ n3_ n4_ n5_ n6_ n7_;clear hg hw hp_))
                                                          (first|go_roundg k5|((try simp only [add_plain] at *);go_roundg k5))
                                                          case measure=>have:=HK1.1;have:=HK2.1;have:=HK3.1;have:=HJ37.1;have:=HK5.1;omega
                                                          case rel=>exact⟨(y298),(wrap64 (x80_5+1)),qB47,H',⟨by have:=HK1.1;have:=HK2.1;have:=HK3.1;have:=HJ37.1;have:=HK5.1;omega⟩,⟨by (try simp only [hl8_1]);(try simp only [hl10_3]);(try simp only [hl12_3]);(with_reducible repeat(first|apply Kd.N_alloc|apply Kd.N_drewN|apply Kd.N_drew));exact Kd.N_mono HO_10.1 (fun _ hk=>⟨hk.1.1,⟨hk.1.2.1,⟨hk.2,⟨hk.1.2.2.1,⟨hk.1.2.2.2.1,hk.1.2.2.2.2⟩⟩⟩⟩⟩)⟩,⟨by (try simp only [hl8_1]);(try simp only [hl10_3]);(try simp only [hl12_3]);(with_reducible repeat(first|apply Kd.R_alloc|apply Kd.R_drewN|apply Kd.R_drew));exact Kd.R_mono HO_12.1 (fun _ hk=>⟨hk.2,⟨hk.1.1,hk.1.2⟩⟩)⟩,⟨by (try simp only [hl8_1]);(try simp only [hl10_3]);(try simp only [hl12_3]);(with_reducible repeat(first|apply Kd.N_alloc|apply Kd.N_drewN|apply Kd.N_drew));exact Kd.N_mono HO_13.1 (fun _ hk=>⟨hk.1.1,⟨hk.1.2.1,⟨hk.2,⟨hk.1.2.2.1,⟨hk.1.2.2.2.1,hk.1.2.2.2.2⟩⟩⟩⟩⟩)⟩,⟨by (try simp only [hl8_1]);(try simp only [hl10_3]);(try simp only [hl12_3]);(with_reducible repeat(first|apply Kd.R_alloc|apply Kd.R_drewN|apply Kd.R_drew));exact HO_15.1⟩,⟨by (try simp only [hl8_1]);(try simp only [hl10_3]);(try simp only [hl12_3]);(with_reducible repeat(first|apply Kd.R_alloc|apply Kd.R_drewN|apply Kd.R_drew));exact Kd.R_mono HO_78.1 (fun _ hk=>⟨hk.1.1,⟨hk.2,hk.1.2⟩⟩)⟩,⟨by (try simp only [hl8_1]);(try simp only [hl10_3]);(try simp only [hl12_3]);(with_reducible repeat(first|apply Kd.R_alloc|apply Kd.R_drewN|apply Kd.R_drew));exact Kd.R_mono HO_271003.1 (fun _ hk=>⟨hk.1.1,⟨hk.2,hk.1.2⟩⟩)⟩,⟨by (try simp only [hl8_1]);(try simp only [hl10_3]);(try simp only [hl12_3]);(with_reducible repeat(first|refine blk_drewN ?_ _|refine blk_drew ?_|refine blk_alloc ?_ _));exact BK270.1⟩,⟨by repeat(first|(with_reducible first|exact HB.1|apply below_alloc|apply pw_below_drewN|apply below_drew1|refine below_set ?_ GE270.1)|exact HB.1)⟩⟩
                                                        · rw [if_neg c57] at H
                                                          exact absurd H (by simp)
                                                      · rw [if_neg c56] at H
                                                        exact absurd H (by simp)
                                                    · rw [if_neg c55] at H
                                                      exact absurd H (by simp)
                                                  · rw [if_neg c54] at H
                                                    have c54b0:decide (x80_5<(t293.length:Int))=false:=decide_eq_false c54;have c54b0_0:=c54b0
                                                    (try rw [hl8_1] at c54b0_0)
                                                    have c54b0_1:=c54b0
                                                    (try rw [hl10_3] at c54b0_1)
                                                    have c54b0_2:=c54b0
                                                    (try rw [hl12_3] at c54b0_2)
                                                    clear c54
                                                    by_cases c62:x13_3.length<5864062014805
                                                    · rw [if_pos c62] at H
                                                      have LMc62:=qAm c62;clear c62;obtain⟨y299,hy299⟩:∃y_:List (List Int),y_=(x13_3 ++ [x15_5]):=⟨_,rfl⟩
                                                      replace H:(impl_PeriodPolynomial.l2 k5 a1 x10_3 x12_3 y299 a1 x43_2 (wrap64 ((x10_2.length:Int)+1)) (wrap64 (x55_3+1)) t263 t264 t265 x271003_3)=some (r1,r2):=by first|(rw [hy299];with_reducible exact H)|(have H2_:=(Option.bind_some _ _).symm.trans H;rw [hy299];with_reducible exact H2_)|(have H2_:=(Option.bind_some _ _).symm.trans H;with_reducible exact H2_)|with_reducible exact H|(rw [hy299];exact H)|exact H
                                                      have Ny299:=qAm hy299;clear hy299;have H':=qAm H;clear H;obtain⟨Ao64,co64,eo64⟩:=Kd.R_slice HO_15.1;subst eo64;go_wp2_with (first|((with_reducible refine gate_builtin (b:=.append) (xs:=#[.tmp 93,.tmp 95]) rfl ?_);at_builtin;refine Kd.N_append (Kd.slice 2 (Kd.int .i64)) (w0:=w) w.heap.size rfl (.tmp 93) (.tmp 95) 57 22 (.slice none 0 0) 24 rfl Try.underlying57 info22 rfl (by decide) (by omega) u13 x13_3 x15_5 [.slice Ao64 x15_5.length co64] (fun k_=>some k_≠(.slice (some ad292) x10_3.length co34:Value).ownBlock∧some k_≠(.slice (some ⟨go27,0,none⟩) x12_3.length co27:Value).ownBlock∧some k_≠(.slice Ao53 t293.length co53:Value).ownBlock∧some k_≠(.slice Ao51 x271003_3.length co51:Value).ownBlock∧k_≠gb270) (fun k_=>((fun k_=>some k_≠(.slice (some ad292) x10_3.length co34:Value).ownBlock∧some k_≠(.slice (some ⟨go27,0,none⟩) x12_3.length co27:Value).ownBlock∧some k_≠(.slice Ao53 t293.length co53:Value).ownBlock∧some k_≠(.slice Ao51 x271003_3.length co51:Value).ownBlock∧k_≠gb270)) k_∧some k_≠(u13:Value).ownBlock) rfl rfl ?aP (fun _ hk=>hk) ?aF ?aO ?aB ?aS ?aL ?_;(case aP=>exact(Kd.FK_slice_mk (Kd.R_reads' (Kd.R_mono (ok':=(fun k_=>((fun k_=>some k_≠(.slice (some ad292) x10_3.length co34:Value).ownBlock∧some k_≠(.slice (some ⟨go27,0,none⟩) x12_3.length co27:Value).ownBlock∧some k_≠(.slice Ao53 t293.length co53:Value).ownBlock∧some k_≠(.slice Ao51 x271003_3.length co51:Value).ownBlock∧k_≠gb270)) k_∧some k_≠(u13:Value).ownBlock)) (Kd.R_types (Kd.R_apart' (Kd.R_apart' (HO_15.1) (Kd.N_typed HO_10.1) (by decide)) (Kd.N_typed HO_13.1) (by decide)) BK270.1 (by decide)) (fun k_ hk=>⟨⟨hk.1.1.2,⟨hk.1.1.1.1,⟨hk.1.1.1.2.1,⟨hk.1.1.1.2.2,hk.2⟩⟩⟩⟩,hk.1.2⟩))).2.1 (Kd.R_F (Kd.R_mono (ok':=(fun k_=>((fun k_=>some k_≠(.slice (some ad292) x10_3.length co34:Value).ownBlock∧some k_≠(.slice (some ⟨go27,0,none⟩) x12_3.length co27:Value).ownBlock∧some k_≠(.slice Ao53 t293.length co53:Value).ownBlock∧some k_≠(.slice Ao51 x271003_3.length co51:Value).ownBlock∧k_≠gb270)) k_∧some k_≠(u13:Value).ownBlock)) (Kd.R_types (Kd.R_apart' (Kd.R_apart' (HO_15.1) (Kd.N_typed HO_10.1) (by decide)) (Kd.N_typed HO_13.1) (by decide)) BK270.1 (by decide)) (fun k_ hk=>⟨⟨hk.1.1.2,⟨hk.1.1.1.1,⟨hk.1.1.1.2.1,⟨hk.1.1.1.2.2,hk.2⟩⟩⟩⟩,hk.1.2⟩)))));(case aB=>exact qB7);(case aF=>exact(fun k_ hk=>⟨Kd.fresh' (Kd.N_lt qB35) k_ hk,Kd.fresh' (Kd.R_lt qB37) k_ hk,Kd.fresh' (Kd.R_lt qB39) k_ hk,Kd.fresh' (Kd.R_lt qB23) k_ hk,Kd.freshB (g:=gb270) (o:=.cells #[.int .i64 t263,.int .i64 t264,.int .i64 t265,.slice Ao51 x271003_3.length co51] 97 (0,0)) qB22 k_ hk⟩));(case aO=>exact(by (with_reducible repeat(first|apply Kd.N_alloc|apply Kd.N_drewN|apply Kd.N_drew));exact Kd.N_mono HO_13.1 (fun _ hk=>⟨hk.1,⟨hk.2.1,⟨hk.2.2.2.1,⟨hk.2.2.2.2.1,hk.2.2.2.2.2⟩⟩⟩⟩)));(case aS=>exact(below_size qB7));(case aL=>have:=LMc62.1;omega);intro v300 w63 ho hb hg hat;rw [← Ny299.1] at ho;have n0_:=qAm (Kd.N_afterv (ok:=(fun k_=>some k_≠(.slice (some ⟨go27,0,none⟩) x12_3.length co27:Value).ownBlock∧some k_≠(.slice Ao64 x15_5.length co64:Value).ownBlock∧some k_≠(.slice Ao53 t293.length co53:Value).ownBlock∧some k_≠(.slice Ao51 x271003_3.length co51:Value).ownBlock∧k_≠gb270)) (by (with_reducible repeat(first|apply Kd.N_alloc|apply Kd.N_drewN|apply Kd.N_drew));exact Kd.N_mono HO_10.1 (fun _ hk=>⟨⟨hk.1,⟨hk.2.2.1,⟨hk.2.2.2.1,⟨hk.2.2.2.2.1,hk.2.2.2.2.2⟩⟩⟩⟩,hk.2.1⟩)) hg hat);have n1_:=qAm (Kd.R_over' qB37 (Kd.N_typed qB38) (by decide) hg);have n2_:=qAm (Kd.R_over' qB39 (Kd.N_typed qB38) (by decide) hg);have n3_:=qAm (Kd.R_over' qB23 (Kd.N_typed qB38) (by decide) hg);have n4_:=qAm (blk_grown (g:=gb270) (o:=.cells #[.int .i64 t263,.int .i64 t264,.int .i64 t265,.slice Ao51 x271003_3.length co51] 97 (0,0)) qB22 hg (Kd.N_ne HO_13.1 BK270.1 (by decide)));have n5_:=qAm (hb);have n6_:=qAm (ho);clear HO_10;clear HO_12;clear HO_78;clear HO_271003;clear BK270;clear HB;clear HO_13;clear HO_15;have HO_10:=n0_;have HO_12:=n1_;have HO_78:=n2_;have HO_271003:=n3_;have BK270:=n4_;have HB:=n5_;have HO301:=n6_;clear n0_ n1_ n2_ n3_ n4_ n5_ n6_;clear ho hb hg hat))
                                                      (try simp only [← hl10_3,← hl12_3])
                                                      (first|go_roundg k5|((try simp only [add_plain] at *);go_roundg k5))
                                                      case measure=>have:=HK1.1;have:=HK2.1;have:=HK3.1;have:=HJ37.1;have:=HK5.1;omega
                                                      case rel=>exact⟨(x10_3),(x12_3),(y299),(wrap64 (x55_3+1)),(x271003_3),(.slice Ao51 x271003_3.length co51),HU_,qB47,H',⟨by have:=HK1.1;have:=HK2.1;have:=HK3.1;have:=HJ37.1;have:=HK5.1;omega⟩,⟨by (try simp only [hl8_1]);(try simp only [hl10_3]);(try simp only [hl12_3]);(with_reducible repeat(first|apply Kd.N_alloc|apply Kd.N_drewN|apply Kd.N_drew));exact Kd.N_mono HO_10.1 (fun _ hk=>⟨hk.1.1,⟨hk.2,⟨hk.1.2.2.2.1,hk.1.2.2.2.2⟩⟩⟩)⟩,⟨by (try simp only [hl8_1]);(try simp only [hl10_3]);(try simp only [hl12_3]);(with_reducible repeat(first|apply Kd.R_alloc|apply Kd.R_drewN|apply Kd.R_drew));exact Kd.R_mono HO_12.1 (fun _ hk=>hk.2.2)⟩,⟨by (try simp only [hl8_1]);(try simp only [hl10_3]);(try simp only [hl12_3]);(with_reducible repeat(first|apply Kd.N_alloc|apply Kd.N_drewN|apply Kd.N_drew));exact Kd.N_mono HO301.1 (fun _ hk=>⟨hk.1,⟨hk.2.1,⟨hk.2.2.2.1,hk.2.2.2.2⟩⟩⟩)⟩,⟨by (try simp only [hl8_1]);(try simp only [hl10_3]);(try simp only [hl12_3]);(with_reducible repeat(first|apply Kd.R_alloc|apply Kd.R_drewN|apply Kd.R_drew));exact Kd.R_mono HO_271003.1 (fun _ hk=>hk.1)⟩,⟨by (try simp only [hl8_1]);(try simp only [hl10_3]);(try simp only [hl12_3]);(with_reducible repeat(first|refine blk_drewN ?_ _|refine blk_drew ?_|refine blk_alloc ?_ _));exact BK270.1⟩,⟨by repeat(first|(with_reducible first|exact HB.1|apply below_alloc|apply pw_below_drewN|apply below_drew1|refine below_set ?_ GE270.1)|exact HB.1)⟩⟩
                                                    · rw [if_neg c62] at H
                                                      exact absurd H (by simp)
                                            · rw [if_neg c48] at H
                                              exact absurd H (by simp)
                                          · rw [if_neg c47] at H
                                            have c47b0:decide (x55_3<(x10_3.length:Int))=false:=decide_eq_false c47;have c47b0_0:=c47b0
                                            (try rw [hl8_1] at c47b0_0)
                                            have c47b0_1:=c47b0
                                            (try rw [hl10_3] at c47b0_1)
                                            have c47b0_2:=c47b0
                                            (try rw [hl12_3] at c47b0_2)
                                            clear c47
                                            by_cases c65:x13_3.length<5864062014805
                                            · rw [if_pos c65] at H
                                              have LMc65:=qAm c65;clear c65;obtain⟨y302,hy302⟩:∃y_:List (List Int),y_=(x13_3 ++ [x15_37]):=⟨_,rfl⟩
                                              replace H:(impl_PeriodPolynomial.l2 kj37 a1 x10_3 x12_3 y302 a1 x43_2 (wrap64 ((x10_2.length:Int)+1)) (wrap64 (x55_3+1)) t263 t264 t265 x271003_3)=some (r1,r2):=by first|(rw [hy302];with_reducible exact H)|(have H2_:=(Option.bind_some _ _).symm.trans H;rw [hy302];with_reducible exact H2_)|(have H2_:=(Option.bind_some _ _).symm.trans H;with_reducible exact H2_)|with_reducible exact H|(rw [hy302];exact H)|exact H
                                              have Ny302:=qAm hy302;clear hy302;have H':=qAm H;clear H;obtain⟨Ao67,co67,eo67⟩:=Kd.R_slice HO_15.1;subst eo67;go_wp2_with (first|((with_reducible refine gate_builtin (b:=.append) (xs:=#[.tmp 93,.tmp 95]) rfl ?_);at_builtin;refine Kd.N_append (Kd.slice 2 (Kd.int .i64)) (w0:=w) w.heap.size rfl (.tmp 93) (.tmp 95) 57 22 (.slice none 0 0) 24 rfl Try.underlying57 info22 rfl (by decide) (by omega) u13 x13_3 x15_37 [.slice Ao67 x15_37.length co67] (fun k_=>some k_≠(.slice Ao34 x10_3.length co34:Value).ownBlock∧some k_≠(.slice (some ⟨go27,0,none⟩) x12_3.length co27:Value).ownBlock∧some k_≠(u271003:Value).ownBlock∧k_≠gb270) (fun k_=>((fun k_=>some k_≠(.slice Ao34 x10_3.length co34:Value).ownBlock∧some k_≠(.slice (some ⟨go27,0,none⟩) x12_3.length co27:Value).ownBlock∧some k_≠(u271003:Value).ownBlock∧k_≠gb270)) k_∧some k_≠(u13:Value).ownBlock) rfl rfl ?aP (fun _ hk=>hk) ?aF ?aO ?aB ?aS ?aL ?_;(case aP=>exact(Kd.FK_slice_mk (Kd.R_reads' (Kd.R_mono (ok':=(fun k_=>((fun k_=>some k_≠(.slice Ao34 x10_3.length co34:Value).ownBlock∧some k_≠(.slice (some ⟨go27,0,none⟩) x12_3.length co27:Value).ownBlock∧some k_≠(u271003:Value).ownBlock∧k_≠gb270)) k_∧some k_≠(u13:Value).ownBlock)) (Kd.R_types (Kd.R_apart' (Kd.R_apart' (HO_15.1) (Kd.N_typed HO_10.1) (by decide)) (Kd.N_typed HO_13.1) (by decide)) BK270.1 (by decide)) (fun k_ hk=>⟨⟨hk.1.1.2,⟨hk.1.1.1.1,⟨hk.1.1.1.2,hk.2⟩⟩⟩,hk.1.2⟩))).2.1 (Kd.R_F (Kd.R_mono (ok':=(fun k_=>((fun k_=>some k_≠(.slice Ao34 x10_3.length co34:Value).ownBlock∧some k_≠(.slice (some ⟨go27,0,none⟩) x12_3.length co27:Value).ownBlock∧some k_≠(u271003:Value).ownBlock∧k_≠gb270)) k_∧some k_≠(u13:Value).ownBlock)) (Kd.R_types (Kd.R_apart' (Kd.R_apart' (HO_15.1) (Kd.N_typed HO_10.1) (by decide)) (Kd.N_typed HO_13.1) (by decide)) BK270.1 (by decide)) (fun k_ hk=>⟨⟨hk.1.1.2,⟨hk.1.1.1.1,⟨hk.1.1.1.2,hk.2⟩⟩⟩,hk.1.2⟩)))));(case aB=>exact qB7);(case aF=>exact(fun k_ hk=>⟨Kd.fresh' (Kd.N_lt qB35) k_ hk,Kd.fresh' (Kd.R_lt qB37) k_ hk,Kd.fresh' (Kd.R_lt qB23) k_ hk,Kd.freshB (g:=gb270) (o:=.cells #[.int .i64 t263,.int .i64 t264,.int .i64 t265,u271003] 97 (0,0)) qB22 k_ hk⟩));(case aO=>exact(by (with_reducible repeat(first|apply Kd.N_alloc|apply Kd.N_drewN|apply Kd.N_drew));exact Kd.N_mono HO_13.1 (fun _ hk=>⟨hk.1,⟨hk.2.1,⟨hk.2.2.2.1,hk.2.2.2.2⟩⟩⟩)));(case aS=>exact(below_size qB7));(case aL=>have:=LMc65.1;omega);intro v303 w66 ho hb hg hat;rw [← Ny302.1] at ho;have n0_:=qAm (Kd.N_afterv (ok:=(fun k_=>some k_≠(.slice (some ⟨go27,0,none⟩) x12_3.length co27:Value).ownBlock∧some k_≠(.slice Ao67 x15_37.length co67:Value).ownBlock∧some k_≠(u271003:Value).ownBlock∧k_≠gb270)) (by (with_reducible repeat(first|apply Kd.N_alloc|apply Kd.N_drewN|apply Kd.N_drew));exact Kd.N_mono HO_10.1 (fun _ hk=>⟨⟨hk.1,⟨hk.2.2.1,⟨hk.2.2.2.1,hk.2.2.2.2⟩⟩⟩,hk.2.1⟩)) hg hat);have n1_:=qAm (Kd.R_over' qB37 (Kd.N_typed qB38) (by decide) hg);have n2_:=qAm (Kd.R_over' qB23 (Kd.N_typed qB38) (by decide) hg);have n3_:=qAm (blk_grown (g:=gb270) (o:=.cells #[.int .i64 t263,.int .i64 t264,.int .i64 t265,u271003] 97 (0,0)) qB22 hg (Kd.N_ne HO_13.1 BK270.1 (by decide)));have n4_:=qAm (hb);have n5_:=qAm (ho);clear HO_10;clear HO_12;clear HO_271003;clear BK270;clear HB;clear HO_13;clear HO_15;have HO_10:=n0_;have HO_12:=n1_;have HO_271003:=n2_;have BK270:=n3_;have HB:=n4_;have HO304:=n5_;clear n0_ n1_ n2_ n3_ n4_ n5_;clear ho hb hg hat))
                                              (try simp only [← hl10_3,← hl12_3])
                                              (first|go_roundg kj37|((try simp only [add_plain] at *);go_roundg kj37))
                                              case measure=>have:=HK1.1;have:=HK2.1;have:=HK3.1;have:=HJ37.1;omega
                                              case rel=>exact⟨(x10_3),(x12_3),(y302),(wrap64 (x55_3+1)),(x271003_3),(u271003),HU_,qB47,H',⟨by have:=HK1.1;have:=HK2.1;have:=HK3.1;have:=HJ37.1;omega⟩,⟨by (try simp only [hl8_1]);(try simp only [hl10_3]);(try simp only [hl12_3]);(with_reducible repeat(first|apply Kd.N_alloc|apply Kd.N_drewN|apply Kd.N_drew));exact Kd.N_mono HO_10.1 (fun _ hk=>⟨hk.1.1,⟨hk.2,⟨hk.1.2.2.1,hk.1.2.2.2⟩⟩⟩)⟩,⟨by (try simp only [hl8_1]);(try simp only [hl10_3]);(try simp only [hl12_3]);(with_reducible repeat(first|apply Kd.R_alloc|apply Kd.R_drewN|apply Kd.R_drew));exact Kd.R_mono HO_12.1 (fun _ hk=>hk.2)⟩,⟨by (try simp only [hl8_1]);(try simp only [hl10_3]);(try simp only [hl12_3]);(with_reducible repeat(first|apply Kd.N_alloc|apply Kd.N_drewN|apply Kd.N_drew));exact HO304.1⟩,⟨by (try simp only [hl8_1]);(try simp only [hl10_3]);(try simp only [hl12_3]);(with_reducible repeat(first|apply Kd.R_alloc|apply Kd.R_drewN|apply Kd.R_drew));exact Kd.R_mono HO_271003.1 (fun _ hk=>hk.1)⟩,⟨by (try simp only [hl8_1]);(try simp only [hl10_3]);(try simp only [hl12_3]);(with_reducible repeat(first|refine blk_drewN ?_ _|refine blk_drew ?_|refine blk_alloc ?_ _));exact BK270.1⟩,⟨by repeat(first|(with_reducible first|exact HB.1|apply below_alloc|apply pw_below_drewN|apply below_drew1|refine below_set ?_ GE270.1)|exact HB.1)⟩⟩
                                            · rw [if_neg c65] at H
                                              exact absurd H (by simp)
                                    · rw [if_neg c37] at H
                                      exact absurd H (by simp)
                                  · rw [if_neg c36] at H
                                    exact absurd H (by simp)
                                · rw [if_neg c35] at H
                                  have c35b0:decide (x55_3<(wrap64 ((x10_2.length:Int)+1)))=false:=decide_eq_false c35;have c35b0w:decide (x55_3<(IntKind.i64.wrap ((x10_2.length:Int)+1)))=false:=by first|(simp only [i64_w];exact c35b0)|exact c35b0
                                  have c35b0x:=c35b0
                                  (try simp only [hl10_3] at c35b0x)
                                  have c35b0y:=c35b0w
                                  (try simp only [hl10_3] at c35b0y)
                                  have c35b0_0:=c35b0
                                  (try rw [hl8_1] at c35b0_0)
                                  have c35b0_1:=c35b0
                                  (try rw [hl10_3] at c35b0_1)
                                  have c35b0_2:=c35b0
                                  (try rw [hl12_3] at c35b0_2)
                                  clear c35;have H':=qAm H;clear H;go_wp2
                                  (try simp only [← hl10_3,← hl12_3])
                                  (first|go_roundg k3|((try simp only [add_plain] at *);go_roundg k3))
                                  case measure=>have:=HK1.1;have:=HK2.1;have:=HK3.1;omega
                                  case rel=>exact⟨(x13_3),(wrap64 (x43_2+1)),(x271003_3),(u271003),HU_,qB47,H',⟨by have:=HK1.1;have:=HK2.1;have:=HK3.1;omega⟩,⟨by (try simp only [hl8_1]);(try simp only [hl10_3]);(try simp only [hl12_3]);(with_reducible repeat(first|apply Kd.N_alloc|apply Kd.N_drewN|apply Kd.N_drew));exact Kd.N_mono HO_13.1 (fun _ hk=>⟨hk.2.2.1,hk.2.2.2⟩)⟩,⟨by (try simp only [hl8_1]);(try simp only [hl10_3]);(try simp only [hl12_3]);(with_reducible repeat(first|apply Kd.R_alloc|apply Kd.R_drewN|apply Kd.R_drew));exact Kd.R_mono HO_271003.1 (fun _ hk=>trivial)⟩,⟨by (try simp only [hl8_1]);(try simp only [hl10_3]);(try simp only [hl12_3]);(with_reducible repeat(first|refine blk_drewN ?_ _|refine blk_drew ?_|refine blk_alloc ?_ _));exact BK270.1⟩,⟨by repeat(first|(with_reducible first|exact HB.1|apply below_alloc|apply pw_below_drewN|apply below_drew1|refine below_set ?_ GE270.1)|exact HB.1)⟩⟩
                          · rw [if_neg c26] at H
                            exact absurd H (by simp)
                        · rw [if_neg c25] at H
                          exact absurd H (by simp)
                      · rw [if_neg c24] at H
                        exact absurd H (by simp)
                    · rw [if_neg c23] at H
                      exact absurd H (by simp)
                  · rw [if_neg c22] at H
                    have c22b0:decide (x43_2<a1)=false:=decide_eq_false c22;clear c22;obtain⟨y305,hy305⟩:∃y_:List Int,y_=(([]:List Int)):=⟨_,rfl⟩
                    replace H:(impl_PeriodPolynomial.l4 k2 x10_2 y305 (x10_2.length:Int) 0)=some (r1,r2):=by first|(rw [hy305];with_reducible exact H)|(have H2_:=(Option.bind_some _ _).symm.trans H;rw [hy305];with_reducible exact H2_)|(have H2_:=(Option.bind_some _ _).symm.trans H;with_reducible exact H2_)|with_reducible exact H|(rw [hy305];exact H)|exact H
                    have Ny305:=qAm hy305;clear hy305;have H':=qAm H;clear H;go_wp2_with (first|((with_reducible refine gate_dst (N:=100) rfl ?_);refine Kd.R_lit (Kd.int .i64) _ 2 ?hg (N:=100) ?hd (xs:=([]:List Int)) (inner:=[]) (ok:=fun _=>True) (okp:=fun _=>True) ?hr ?hp (fun _ hk=>hk) trivial (Below.refl _ _) (Nat.le_refl _) (by simp) ?_;(case hd=>rfl);(case hg=>rfl);(case hr=>first|(go_simp;done)|(go_simp;rfl));(case hp=>exact(Reps.none _ _));intro v306 w68 ho69 hb hg_ hnew_;clear hg_ hnew_;(first|rw [← Ny305.1] at ho69|(simp only [Int.reduceToNat] at ho69;rw [← Ny305.1] at ho69));have n0_:=qAm (Kd.N_elder' qB35 (Kd.R_base ho69) hb);have n1_:=qAm (Kd.R_elder' qB23 (Kd.R_base ho69) hb);have n2_:=qAm (Kd.R_lower (Kd.R_new' ho69 (Kd.R_lt qB23)) (below_size qB7));have n3_:=qAm (blk_below (g:=gb270) (o:=.cells #[.int .i64 t263,.int .i64 t264,.int .i64 t265,u271003] 97 (0,0)) qB22 hb);have n4_:=qAm (below_step qB7 hb);clear HO_10;clear HO_271003;clear BK270;clear HB;have HO_10:=n0_;have HO_271003:=n1_;have HO307:=n2_;have BK270:=n3_;have HB:=n4_;clear n0_ n1_ n2_ n3_ n4_;clear hb ho69;obtain⟨Ao70,co70,eo70⟩:=Kd.N_slice HO_10.1;subst eo70));try simp only [Act.put,qSa,qSc,qSb]
                    go_loopg [18,103] k2 (fun kq v18 v103 w'=>∃(x18_3:List Int) (x103_3:Int),v103=.int .i64 x103_3∧Aside0 (impl_PeriodPolynomial.l4 kq x10_2 x18_3 (x10_2.length:Int) x103_3=some (r1,r2))∧Aside0 (kq≤k2)∧Aside0 (Kd.N (Kd.slice 2 (Kd.int .i64)) 22 w' w.heap.size (fun k_=>some k_≠(v18:Value).ownBlock∧some k_≠(u271003:Value).ownBlock∧k_≠gb270) (.slice Ao70 x10_2.length co70) x10_2)∧Aside0 (Kd.R (Kd.int .i64) 2 w' w.heap.size (fun k_=>some k_≠(u271003:Value).ownBlock) v18 x18_3)∧Aside0 (Kd.R (Kd.int .i64) 2 w' w.heap.size (fun k_=>some k_≠(v18:Value).ownBlock) u271003 x271003_2)∧Aside0 (w'.heap[gb270]? =some (.cells #[.int .i64 t263,.int .i64 t264,.int .i64 t265,u271003] 97 (0,0)))∧Aside0 (Below w.heap.size w w'))
                    case atStart=>exact⟨(y305),(0),qB47,H',⟨Nat.le_refl _⟩,⟨by (try simp only [hl8_1]);(with_reducible repeat(first|apply Kd.N_alloc|apply Kd.N_drewN|apply Kd.N_drew));exact Kd.N_mono HO_10.1 (fun _ hk=>⟨hk.2,⟨hk.1.1,hk.1.2⟩⟩)⟩,⟨by (try simp only [hl8_1]);(with_reducible repeat(first|apply Kd.R_alloc|apply Kd.R_drewN|apply Kd.R_drew));exact Kd.R_mono HO307.1 (fun _ hk=>hk.2)⟩,⟨by (try simp only [hl8_1]);(with_reducible repeat(first|apply Kd.R_alloc|apply Kd.R_drewN|apply Kd.R_drew));exact Kd.R_mono HO_271003.1 (fun _ hk=>hk.2)⟩,⟨by (try simp only [hl8_1]);(with_reducible repeat(first|refine blk_drewN ?_ _|refine blk_drew ?_|refine blk_alloc ?_ _));exact BK270.1⟩,⟨by repeat(first|(with_reducible first|exact HB.1|apply below_alloc|apply pw_below_drewN|apply below_drew1|refine below_set ?_ GE270.1)|exact HB.1)⟩⟩
                    case round=>
                      clear H';try clear c1
                      try clear p1
                      try clear q1
                      try clear hx1
                      try clear c2
                      try clear p2
                      try clear q2
                      try clear hx2
                      try clear hf2
                      try clear c3
                      try clear c4
                      try clear c5
                      try clear c5b0
                      try clear c5b1
                      try clear p5
                      try clear q5
                      try clear hx5
                      try clear hf5
                      try clear c6
                      try clear c6b0
                      try clear c6b1
                      try clear p6
                      try clear c8
                      try clear c14
                      try clear c14b0
                      try clear c15
                      try clear c15b0
                      try clear c16
                      try clear c16b0
                      try clear p17
                      try clear q17
                      try clear hx17
                      try clear hf17
                      try clear c22
                      try clear c22b0
                      try clear c23
                      try clear c23b0
                      try clear c23b1
                      try clear c24
                      try clear c24b0
                      try clear c24b1
                      try clear c25
                      try clear c25b0
                      try clear c26
                      try clear c26b0
                      try clear p27
                      try clear q27
                      try clear hx27
                      try clear hf27
                      try clear c28
                      try clear p28
                      try clear q28
                      try clear hx28
                      try clear c29
                      try clear p29
                      try clear q29
                      try clear hx29
                      try clear c35
                      try clear c35b0
                      try clear c36
                      try clear c36b0
                      try clear c36b1
                      try clear c37
                      try clear c37b0
                      try clear c37b1
                      try clear c41
                      try clear c41b0
                      try clear c43
                      try clear c43b0
                      try clear c44
                      try clear c44b0
                      try clear c45
                      try clear c47
                      try clear c47b0
                      try clear c48
                      try clear c48b0
                      try clear c54
                      try clear c54b0
                      try clear c55
                      try clear c55b0
                      try clear c56
                      try clear c56b0
                      try clear c57
                      try clear c57b0
                      try clear p58
                      try clear q58
                      try clear hx58
                      try clear hf58
                      try clear c62
                      try clear p64
                      try clear c65
                      try clear hcz50_0
                      try clear hcz50_1
                      try clear hcz50_2
                      try clear hcz50_3
                      try clear hcz9_0
                      try clear hcz9_1
                      try clear hcz9_2
                      try clear hcz9_3
                      try clear hfz50_0
                      try clear hfz50_1
                      try clear hfz50_2
                      try clear hfz50_3
                      try clear hfz9_0
                      try clear hfz9_1
                      try clear hfz9_2
                      try clear hfz9_3
                      try clear hx17_0
                      try clear hx27_0
                      try clear hx288_0
                      try clear hx292_0
                      try clear hx296_0
                      try clear hx297_0
                      try clear hx58_0
                      try clear p1
                      try clear p17
                      try clear p2
                      try clear p27
                      try clear p28
                      try clear p288
                      try clear p29
                      try clear p292
                      try clear p296
                      try clear p297
                      try clear p58
                      try clear p6
                      try clear q1
                      try clear q17
                      try clear q2
                      try clear q27
                      try clear q28
                      try clear q288
                      try clear q29
                      try clear q292
                      try clear q296
                      try clear q297
                      try clear q58
                      obtain⟨x18_3,x103_3,rfl,HA,HK3,HO_10,HO_18,HO_271003,BK270,HB⟩:=hrel;cases gk with
                      |zero=>exact absurd HA.1 (by simp [impl_PeriodPolynomial.l4])
                      |succ k3=>
                        have H:=HA.1;clear HA;simp only [impl_PeriodPolynomial.l4] at H
                        by_cases c71:x103_3<(x10_2.length:Int)
                        · rw [if_pos c71] at H
                          have c71b0:decide (x103_3<(x10_2.length:Int))=true:=decide_eq_true c71;clear c71
                          by_cases c72:0≤x103_3
                          · rw [if_pos c72] at H
                            have c72b0:decide (0≤x103_3)=true:=decide_eq_true c72;clear c72
                            by_cases c73:x103_3<(x10_2.length:Int)
                            · rw [if_pos c73] at H
                              have c73b0:decide (x103_3<(x10_2.length:Int))=true:=decide_eq_true c73;clear c73
                              by_cases c74:0<((rd_L1 x10_2 x103_3).length:Int)
                              · rw [if_pos c74] at H
                                have c74b0:decide (0<((rd_L1 x10_2 x103_3).length:Int))=true:=decide_eq_true c74;have c74b1:decide (0<(rd_L1 x10_2 x103_3).length)=true:=decide_eq_true (by omega);clear c74
                                by_cases c75:x18_3.length<17592186044416
                                · rw [if_pos c75] at H
                                  have LMc75:=qAm c75;clear c75;obtain⟨y310,hy310⟩:∃y_:List Int,y_=(x18_3 ++ [wrap64 (-(rd (rd_L1 x10_2 x103_3) 0))]):=⟨_,rfl⟩
                                  replace H:(impl_PeriodPolynomial.l4 k3 x10_2 y310 (x10_2.length:Int) (wrap64 (x103_3+1)))=some (r1,r2):=by first|(rw [hy310];with_reducible exact H)|(have H2_:=(Option.bind_some _ _).symm.trans H;rw [hy310];with_reducible exact H2_)|(have H2_:=(Option.bind_some _ _).symm.trans H;with_reducible exact H2_)|with_reducible exact H|(rw [hy310];exact H)|exact H
                                  have Ny310:=qAm hy310;clear hy310;have H':=qAm H;clear H;have p308:0≤(x103_3:Int):=of_decide_eq_true qB46;have q308:x103_3<(x10_2.length:Int):=of_decide_eq_true qB46;obtain⟨ad308,A308_0,c308_0,e308,hx308_0,hl308_0,hi308_0⟩:=at_L1 (Kd.N_reads' HO_10.1).2.2 x103_3 p308 q308;cases e308
                                  obtain⟨ce308,hce308,hMe308,hcc308⟩:=Kd.N_get HO_10.1 [] x103_3 p308 (by first|exact q308|exact of_decide_eq_true qB46|(have e_:=(Kd.N_reads' HO_10.1).1;omega));obtain⟨ua308_0,uc308_0,rfl,ul308_0,ge308_0⟩:=Kd.FK_slice_open hMe308;have hv308_0:=hcc308 0 _ rfl;rw [Nat.add_zero,show((Kd.slice 2 (Kd.int .i64))).sz=1 from rfl,Nat.mul_one] at hv308_0;replace hv308_0:=Option.some.inj (hv308_0.symm.trans hx308_0);injection hv308_0 with hva_ hvn_ hvc_
                                  rw [hva_] at ge308_0;rw [hvc_] at ul308_0;have HL308_0:=qAm (show Kd.V (Kd.int .i64) 2 _ w.heap.size _ _ (rd_L1 x10_2 x103_3) from Kd.V_mk ul308_0 ge308_0);clear hva_ hvn_ hvc_ ge308_0 ul308_0 hcc308 hce308;have HR308_0:=qAm hi308_0;have HC308_0:=qAm hl308_0;clear hi308_0 hl308_0;replace p308:=eq_true p308;replace q308:=eq_true q308;have p309:0≤(0:Int):=(by omega)
                                  have q309:0<((rd_L1 x10_2 x103_3).length:Int):=of_decide_eq_true qB46;obtain⟨ad309,e309,hx309_0⟩:=Kd.at_int (by repeat(first|(with_reducible exact HR308_0.1)|(with_reducible refine Kd.C_alloc ?_ _)|(with_reducible refine Kd.C_drewN ?_ _)|(with_reducible refine Kd.C_drew ?_)|exact HR308_0.1)) 0 p309 q309;cases e309
                                  have qi309:(0<(rd_L1 x10_2 x103_3).length)=True:=eq_true (by omega)
                                  (try rw [show((0:Int)).toNat=0 from rfl] at hx309_0)
                                  (try rw [Addr.add_zero'] at hx309_0)
                                  replace p309:=eq_true p309;replace q309:=eq_true q309;go_wp2_with (first|((with_reducible refine gate_builtin (b:=.append) (xs:=#[.tmp 107,.tmp 112]) rfl ?_);at_builtin;refine Kd.R_append (Kd.int .i64) (w0:=w) w.heap.size rfl (.tmp 107) (.tmp 112) 22 2 (.int .i64 0) 8 rfl Try.underlying22 info2 rfl (by decide) (by omega) u18 x18_3 (wrap64 (-(rd (rd_L1 x10_2 x103_3) 0))) [.int .i64 (wrap64 (-(rd (rd_L1 x10_2 x103_3) 0)))] (fun k_=>some k_≠(u271003:Value).ownBlock) (fun _=>False) rfl rfl ?aP (fun _ hk=>hk.elim) ?aF ?aO ?aB ?aS ?aL ?_;(case aP=>exact rfl);(case aB=>exact qB7);(case aF=>exact(fun k_ hk=>Kd.fresh' (Kd.R_lt qB23) k_ hk));(case aO=>exact(by (with_reducible repeat(first|apply Kd.R_alloc|apply Kd.R_drewN|apply Kd.R_drew));exact HO_18.1));(case aS=>exact(below_size qB7));(case aL=>have:=LMc75.1;omega);intro v311 w76 ho hb hg hat;rw [← Ny310.1] at ho;have n0_:=qAm (Kd.N_afterv (ok:=(fun k_=>some k_≠(u271003:Value).ownBlock∧k_≠gb270)) (by (with_reducible repeat(first|apply Kd.N_alloc|apply Kd.N_drewN|apply Kd.N_drew));exact Kd.N_mono HO_10.1 (fun _ hk=>⟨⟨hk.2.1,hk.2.2⟩,hk.1⟩)) hg hat);have n1_:=qAm (Kd.R_after (ok:=(fun _=>True)) qB8 hg hat);have n2_:=qAm (blk_grown (g:=gb270) (o:=.cells #[.int .i64 t263,.int .i64 t264,.int .i64 t265,u271003] 97 (0,0)) qB22 hg (Kd.R_ne HO_18.1 BK270.1 (by decide)));have n3_:=qAm (Kd.V_afterv (ok:=(fun k_=>some k_≠(.slice (some ad308) x10_2.length co70:Value).ownBlock∧some k_≠(u271003:Value).ownBlock∧k_≠gb270)) (by (with_reducible repeat(first|apply Kd.V_alloc|apply Kd.V_drewN|apply Kd.V_drew));exact Kd.V_mono HL308_0.1 (fun _ hk=>⟨⟨hk.2,⟨hk.1.2.1,hk.1.2.2⟩⟩,hk.1.1⟩)) hg hat);have n4_:=qAm (hb);have n5_:=qAm (ho);clear HO_10;clear HO_271003;clear BK270;clear HL308_0;clear HB;clear HO_18;have HO_10:=n0_;have HO_271003:=n1_;have BK270:=n2_;have HL308_0:=n3_;have HB:=n4_;have HO312:=n5_;clear n0_ n1_ n2_ n3_ n4_ n5_;clear ho hb hg hat))
                                  (first|go_roundg k3|((try simp only [add_plain] at *);go_roundg k3))
                                  case measure=>have:=HK1.1;have:=HK2.1;have:=HK3.1;omega
                                  case rel=>exact⟨(y310),(wrap64 (x103_3+1)),qB47,H',⟨by have:=HK1.1;have:=HK2.1;have:=HK3.1;omega⟩,⟨by (try simp only [hl8_1]);(with_reducible repeat(first|apply Kd.N_alloc|apply Kd.N_drewN|apply Kd.N_drew));exact Kd.N_mono HO_10.1 (fun _ hk=>⟨hk.2,⟨hk.1.1,hk.1.2⟩⟩)⟩,⟨by (try simp only [hl8_1]);(with_reducible repeat(first|apply Kd.R_alloc|apply Kd.R_drewN|apply Kd.R_drew));exact HO312.1⟩,⟨by (try simp only [hl8_1]);(with_reducible repeat(first|apply Kd.R_alloc|apply Kd.R_drewN|apply Kd.R_drew));exact Kd.R_mono HO_271003.1 (fun _ hk=>hk.2)⟩,⟨by (try simp only [hl8_1]);(with_reducible repeat(first|refine blk_drewN ?_ _|refine blk_drew ?_|refine blk_alloc ?_ _));exact BK270.1⟩,⟨by repeat(first|(with_reducible first|exact HB.1|apply below_alloc|apply pw_below_drewN|apply below_drew1|refine below_set ?_ GE270.1)|exact HB.1)⟩⟩
                                · rw [if_neg c75] at H
                                  exact absurd H (by simp)
                              · rw [if_neg c74] at H
                                exact absurd H (by simp)
                            · rw [if_neg c73] at H
                              exact absurd H (by simp)
                          · rw [if_neg c72] at H
                            exact absurd H (by simp)
                        · rw [if_neg c71] at H
                          have c71b0:decide (x103_3<(x10_2.length:Int))=false:=decide_eq_false c71;have c71b0_0:=c71b0
                          (try rw [hl8_1] at c71b0_0)
                          clear c71;simp only [Option.some.injEq,Prod.mk.injEq] at H;obtain⟨rfl,rfl⟩:=H;go_wp2;go_ret2;exact⟨_,by first|rfl|(simp [errW_none,errW_some] <;> rfl)|(simp [*,errW_none,errW_some] <;> rfl),by (with_reducible repeat(first|apply Kd.R_alloc|apply Kd.R_drewN|apply Kd.R_drew));exact Kd.R_mono HO_18.1 (fun _ hk=>trivial),by repeat(first|(with_reducible first|exact HB.1|apply below_alloc|apply pw_below_drewN|apply below_drew1|refine below_set ?_ GE270.1)|exact HB.1)⟩
      · rw [if_neg c6] at H
        exact absurd H (by simp)
    · rw [if_neg c5] at H
      exact absurd H (by simp)
  · replace c4:=Bool.eq_false_iff.mpr c4
    subst c4;have H1:(some (([]:List Int),2))=some (r1,r2):=by rw [if_neg (show ¬(false=true) by decide)] at H;exact H
    clear H;have H:=H1;clear H1;simp only [Option.some.injEq,Prod.mk.injEq] at H;obtain⟨rfl,rfl⟩:=H;go_enter Try.func28,Try.ntmps28;go_wp2_with (first|((with_reducible refine gate_callee (f:=81) rfl ?_);refine goesL_ (some 24) rfl rfl Try.func81 (by kernel_rfl) rfl #[.int .i64 a0,.int .i64 a1] rfl qB15 ?_;(with_reducible refine(impl_periodsOf.calls k a0 a1 t263 t264 t265 t266 false _ A3.1).mono ?_);rintro e w77 ⟨v267,rfl,ho0,hb⟩;refine⟨_,rfl,?_⟩;have n0_:=qAm (Kd.R_lower ho0 (below_size qB19));have n1_:=qAm (below_step qB19 hb);clear HB;have HO268:=n0_;have HB:=n1_;clear n0_ n1_;(try clear hb);(try clear hb2);(try clear hk);(try clear hi);(try clear ho0))|((with_reducible refine gate_dst (N:=6) rfl ?_);refine box_event ?hg (N:=6) ?hd (cs:=#[.int .i64 0,.int .i64 0,.int .i64 0,.slice none 0 0]) (t:=97) ?hr ?_;(case hd=>rfl);(case hg=>rfl);(case hr=>first|(go_simp;done)|(go_simp;rfl));intro gb270 hg w78 hbox hb;have HU_:Aside0 (∀k_,(v267:Value).ownBlock=some k_→k_<gb270):=qAm (fun k_ e_=>by rw [hg];exact Kd.R_lt qB34 k_ e_);have n0_:=qAm (Kd.R_below qB34 hb);have n1_:=qAm (below_step qB19 hb);have n2_:=qAm (hbox);have n3_:=qAm ((by rw [hg];exact(below_size qB19):w.heap.size≤gb270));have n4_:=qAm ((by rw [hg];exact(below_size qB19):w.heap.size≤gb270));clear HO268;clear HB;have HO268:=n0_;have HB:=n1_;have BK270:=n2_;have GW270:=n3_;have GE270:=n4_;clear n0_ n1_ n2_ n3_ n4_;clear hb hbox hg;have hcz79_0:w78.cell? ⟨gb270,0,none⟩=some (.int .i64 0):=(blk_cell BK270.1 0).trans rfl;have hcz79_1:w78.cell? ⟨gb270,1,none⟩=some (.int .i64 0):=(blk_cell BK270.1 1).trans rfl;have hcz79_2:w78.cell? ⟨gb270,2,none⟩=some (.int .i64 0):=(blk_cell BK270.1 2).trans rfl;have hcz79_3:w78.cell? ⟨gb270,3,none⟩=some (.slice none 0 0):=(blk_cell BK270.1 3).trans rfl;have hfz79_0:=blk_frozen BK270.1 0;have hfz79_1:=blk_frozen BK270.1 1;have hfz79_2:=blk_frozen BK270.1 2;have hfz79_3:=blk_frozen BK270.1 3;obtain⟨Ao80,co80,eo80⟩:=Kd.R_slice HO268.1;subst eo80));go_ret2;exact⟨_,by first|rfl|(simp [errW_none,errW_some] <;> rfl)|(simp [*,errW_none,errW_some] <;> rfl),by first|exact Kd.R_nil _ _ _ _ _|exact Kd.N_nil _ _ _ _ _|exact Kd.V_nil _ _ _ _ _|exact Kd.Q_nil _ _ _ _ _|exact Kd.S_nil _ _ _ _ _,by repeat(first|(with_reducible first|exact HB.1|apply below_alloc|apply pw_below_drewN|apply below_drew1|refine below_set ?_ GE270.1)|exact HB.1)⟩

end Go.Proofs.Ytefhabkikaadiaa.PFnExactPeriodPolynomial
