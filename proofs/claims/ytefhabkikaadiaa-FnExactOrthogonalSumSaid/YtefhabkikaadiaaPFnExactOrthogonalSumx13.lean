/- The functions that the law reaches, as plain functions, each with the proof that the program comes to it; no condition. Written by a program of this session (wip/mp.py) over the printing of the kit; what is marked HAND is told by hand. -/
import Derived.Test.YtefhabkikaadiaaPFnExactOrthogonalSumx0
import Derived.Test.YtefhabkikaadiaaPFnExactOrthogonalSumx12
namespace Go.Proofs.Ytefhabkikaadiaa.PFnExactOrthogonalSum
open Go.RowKit Go.Proofs.YtefhabkikaadiaaW.PrintWords Go.Proofs.YtefhabkikaadiaaW.PrintLast Go.Proofs.YtefhabkikaadiaaW.PrintMore
attribute [local go_sem] max2_int min2_int max_two min_two max_three min_three max_four min_four   -- for this text's walks alone
set_option linter.unusedVariables false
set_option linter.unusedSimpArgs false

/-! ### impl_around: function 88 -/
def impl_around.f (a0:Int) (a1:Int):Option (Int):=if a1=0 then (none) else (some (Int.tmod (wrap64 ((Int.tmod a0 a1)+a1)) a1))
set_option maxHeartbeats 8000000 in
set_option maxRecDepth 100000 in
theorem impl_around.calls (a0:Int) (a1:Int) (r:Int) (w:World) (h:impl_around.f a0 a1=some r):
  Calls Try.prog 88 #[.int .i64 a0,.int .i64 a1] w fun e w'=>e=.returned (.int .i64 r)∧Drawn0 w w':=by
 have H:(if a1=0 then (none) else (some (Int.tmod (wrap64 ((Int.tmod a0 a1)+a1)) a1)))=some r:=h;clear h
 by_cases c3:a1=0
 ·rw [if_pos c3] at H;exact absurd H (by simp)
 ·rw [if_neg c3] at H;have c3b0:(a1==0)=false:=beq_eq_false_iff_ne.mpr c3;have c3b1:(a1 !=0)=true:=bne_iff_ne.mpr c3;obtain rfl:=Option.some.inj H;go_enter Try.func88,Try.ntmps88;go_wp2;go_ret;exact⟨by first|rfl|(simp;done)|(simp [*];done),by repeat(first|exact Drawn0.refl _|apply Drawn0.step)⟩

/-- A state of type 131 at block g of W; what its slices lead to came in by w0. -/
def IsS131 (w0 W:World) (g:Nat) (f0:Int) (f1:Int) (f2:List (List Int)):Prop:=∃A2 c2,W.heap[g]? =some (.cells #[.int .i64 f0,.int .i64 f1,.slice A2 f2.length c2] 131 (0,0))∧w0.heap.size≤g∧Kd.C (Kd.slice 2 (Kd.int .i64)) w0 A2 f2.length f2
theorem IsS131.grown {w0 W:World} {g:Nat} {f0:Int} {f1:Int} {f2:List (List Int)} {W1:World} {row:Option Nat} (h:IsS131 w0 W g f0 f1 f2) (hw:W.grownBy W1 row) (hne:some g≠row):IsS131 w0 W1 g f0 f1 f2:=by
 obtain⟨A2,c2,hb,hg,hr2⟩:=h;exact⟨A2,c2,blk_grown hb hw hne,hg,hr2⟩
theorem IsS131.own_neN {w0 W:World} {g:Nat} {f0:Int} {f1:Int} {f2:List (List Int)} {α:Type} {d:Kd α} {e:Nat} {base:Nat} {ok:Nat→Prop} {v:Value} {xs:List α} (h:IsS131 w0 W g f0 f1 f2) (ho:Kd.N d e W base ok v xs) (ht:e≠131):some g≠v.ownBlock:=by
 obtain⟨A2,c2,hb,hg,hr2⟩:=h;exact Kd.N_ne ho hb ht
theorem IsS131.fresh {w0 W:World} {g:Nat} {f0:Int} {f1:Int} {f2:List (List Int)} (h:IsS131 w0 W g f0 f1 f2):∀k,W.heap.size≤k→k≠g:=by
 obtain⟨A2,c2,hb,hg,hr2⟩:=h;exact Kd.freshB hb
theorem IsS131.kept {w0 W:World} {g:Nat} {f0:Int} {f1:Int} {f2:List (List Int)} {W1:World} {S:Nat→Prop} (h:IsS131 w0 W g f0 f1 f2) (hk:Kept W W1 S) (hne:¬S g):IsS131 w0 W1 g f0 f1 f2:=by
 obtain⟨A2,c2,hb,hg,hr2⟩:=h;exact⟨A2,c2,blk_kept hb hk hne,hg,hr2⟩
theorem IsS131.below {w0 W:World} {g:Nat} {f0:Int} {f1:Int} {f2:List (List Int)} {W1:World} (h:IsS131 w0 W g f0 f1 f2) (hw:Below W.heap.size W W1):IsS131 w0 W1 g f0 f1 f2:=h.grown (grown_of_below hw none) (by simp)
theorem IsS131.alloc {w0 W:World} {g:Nat} {f0:Int} {f1:Int} {f2:List (List Int)} (h:IsS131 w0 W g f0 f1 f2) (o:Obj):IsS131 w0 (W.alloc o) g f0 f1 f2:=h.below (below_alloc (Below.refl _ _) o)
theorem IsS131.drewN {w0 W:World} {g:Nat} {f0:Int} {f1:Int} {f2:List (List Int)} (h:IsS131 w0 W g f0 f1 f2) (m:Nat):IsS131 w0 (W.drewN m) g f0 f1 f2:=h
theorem IsS131.drew {w0 W:World} {g:Nat} {f0:Int} {f1:Int} {f2:List (List Int)} (h:IsS131 w0 W g f0 f1 f2):IsS131 w0 W.drew g f0 f1 f2:=h
theorem IsS131.at_ {w0 W:World} {g:Nat} {f0:Int} {f1:Int} {f2:List (List Int)} {w':World} {m:Nat} (hq:W.drewN m=w') (h:IsS131 w0 W g f0 f1 f2):IsS131 w0 w' g f0 f1 f2:=by subst hq;exact IsS131.drewN h m
theorem IsS131.apart {w0 W:World} {g:Nat} {f0:Int} {f1:Int} {f2:List (List Int)} {α:Type} {d:Kd α} {e:Nat} {base:Nat} {ok:Nat→Prop} {v:Value} {xs:List α} (h:IsS131 w0 W g f0 f1 f2) (ho:d.R e W base ok v xs) (ht:∀q,q∈e::d.E→q≠131):d.R e W base (fun k=>ok k∧k≠g) v xs:=by
 obtain⟨A2,c2,hb,hg,hr2⟩:=h;exact Kd.R_types ho hb ht
theorem IsS131.own_ne {w0 W:World} {g:Nat} {f0:Int} {f1:Int} {f2:List (List Int)} {α:Type} {d:Kd α} {e:Nat} {base:Nat} {ok:Nat→Prop} {v:Value} {xs:List α} (h:IsS131 w0 W g f0 f1 f2) (ho:d.R e W base ok v xs) (ht:e≠131):some g≠v.ownBlock:=by
 obtain⟨A2,c2,hb,hg,hr2⟩:=h;exact Kd.R_ne ho hb ht
theorem IsS131.apartQ {w0 W:World} {g:Nat} {f0:Int} {f1:Int} {f2:List (List Int)} {α:Type} {d:Kd α} {e:Nat} {base:Nat} {ok:Nat→Prop} {v:Value} {xs:List α} (h:IsS131 w0 W g f0 f1 f2) (ho:d.Q e W base ok v xs) (ht:∀q,q∈e::d.E→q≠131):d.Q e W base (fun k=>ok k∧k≠g) v xs:=by
 obtain⟨A2,c2,hb,hg,hr2⟩:=h;exact Kd.Q_types ho hb ht
theorem IsS131.own_neQ {w0 W:World} {g:Nat} {f0:Int} {f1:Int} {f2:List (List Int)} {α:Type} {d:Kd α} {e:Nat} {base:Nat} {ok:Nat→Prop} {v:Value} {xs:List α} (h:IsS131 w0 W g f0 f1 f2) (ho:d.Q e W base ok v xs) (ht:e≠131):some g≠v.ownBlock:=by
 obtain⟨A2,c2,hb,hg,hr2⟩:=h;exact Kd.Q_ne ho hb ht
theorem IsS131.apartS {w0 W:World} {g:Nat} {f0:Int} {f1:Int} {f2:List (List Int)} {α:Type} {d:Kd α} {e:Nat} {base:Nat} {ok:Nat→Prop} {v:Value} {xs:List α} (h:IsS131 w0 W g f0 f1 f2) (ho:d.S e W base ok v xs) (ht:∀q,q∈e::d.E→q≠131):d.S e W base (fun k=>ok k∧k≠g) v xs:=by
 obtain⟨A2,c2,hb,hg,hr2⟩:=h;exact Kd.S_types ho hb ht
theorem IsS131.own_neS {w0 W:World} {g:Nat} {f0:Int} {f1:Int} {f2:List (List Int)} {α:Type} {d:Kd α} {e:Nat} {base:Nat} {ok:Nat→Prop} {v:Value} {xs:List α} (h:IsS131 w0 W g f0 f1 f2) (ho:d.S e W base ok v xs) (ht:e≠131):some g≠v.ownBlock:=by
 obtain⟨A2,c2,hb,hg,hr2⟩:=h;exact Kd.S_ne ho hb ht
theorem IsS131.lt {w0 W:World} {g:Nat} {f0:Int} {f1:Int} {f2:List (List Int)} (h:IsS131 w0 W g f0 f1 f2):g<W.heap.size:=by
 obtain⟨A2,c2,hb,hg,hr2⟩:=h;exact blk_lt hb
theorem IsS131.ge {w0 W:World} {g:Nat} {f0:Int} {f1:Int} {f2:List (List Int)} (h:IsS131 w0 W g f0 f1 f2):w0.heap.size≤g:=by
 obtain⟨A2,c2,hb,hg,hr2⟩:=h;exact hg
theorem IsS131.ne_blk {w0 W:World} {g:Nat} {f0:Int} {f1:Int} {f2:List (List Int)} {a:Nat} {cs:Array Value} {t:TypeId} {fr:Nat×Nat} (h:IsS131 w0 W g f0 f1 f2) (hb2:W.heap[a]? =some (.cells cs t fr)) (ht:t≠131):g≠a:=by
 obtain⟨A2,c2,hb,hg,hr2⟩:=h;rintro rfl;rw [hb] at hb2;injection hb2 with hb2
 injection hb2 with _ ht2
 exact ht ht2.symm
theorem IsS131.far {w0 W:World} {g:Nat} {f0:Int} {f1:Int} {f2:List (List Int)} {p:Addr} (h:IsS131 w0 W g f0 f1 f2) (hne:g≠p.block) (u:Value):IsS131 w0 (W.setCell p u) g f0 f1 f2:=by
 obtain⟨A2,c2,hb,hg,hr2⟩:=h;exact⟨A2,c2,blk_far hb hne u,hg,hr2⟩
theorem cellS131_0 {W:World} {g:Nat} {A2:Option Addr} {c2:Nat} {f0:Int} {f1:Int} {f2:List (List Int)} (h:W.heap[g]? =some (.cells #[.int .i64 f0,.int .i64 f1,.slice A2 f2.length c2] 131 (0,0))):W.cell? ⟨g,0,none⟩=some (.int .i64 f0):=(blk_cell h 0).trans rfl
theorem IsS131.set_0 {w0 W:World} {g:Nat} {f0:Int} {f1:Int} {f2:List (List Int)} (h:IsS131 w0 W g f0 f1 f2) (x:Int):IsS131 w0 (W.setCell ⟨g,0,none⟩ (.int .i64 x)) g x f1 f2:=by
 obtain⟨A2,c2,hb,hg,hr2⟩:=h;exact⟨A2,c2,by simpa using blk_set hb 0 (.int .i64 x),hg,hr2⟩
theorem cellS131_1 {W:World} {g:Nat} {A2:Option Addr} {c2:Nat} {f0:Int} {f1:Int} {f2:List (List Int)} (h:W.heap[g]? =some (.cells #[.int .i64 f0,.int .i64 f1,.slice A2 f2.length c2] 131 (0,0))):W.cell? ⟨g,1,none⟩=some (.int .i64 f1):=(blk_cell h 1).trans rfl
theorem IsS131.set_1 {w0 W:World} {g:Nat} {f0:Int} {f1:Int} {f2:List (List Int)} (h:IsS131 w0 W g f0 f1 f2) (x:Int):IsS131 w0 (W.setCell ⟨g,1,none⟩ (.int .i64 x)) g f0 x f2:=by
 obtain⟨A2,c2,hb,hg,hr2⟩:=h;exact⟨A2,c2,by simpa using blk_set hb 1 (.int .i64 x),hg,hr2⟩
theorem cellS131_2 {W:World} {g:Nat} {A2:Option Addr} {c2:Nat} {f0:Int} {f1:Int} {f2:List (List Int)} (h:W.heap[g]? =some (.cells #[.int .i64 f0,.int .i64 f1,.slice A2 f2.length c2] 131 (0,0))):W.cell? ⟨g,2,none⟩=some (.slice A2 f2.length c2):=(blk_cell h 2).trans rfl
theorem IsS131.new (w0 W:World) (A2:Option Addr) (c2:Nat) (f0:Int) (f1:Int) (f2:List (List Int)) (hB:Below w0.heap.size w0 W) (hr2:Kd.C (Kd.slice 2 (Kd.int .i64)) w0 A2 f2.length f2):IsS131 w0 (W.alloc (.cells #[.int .i64 f0,.int .i64 f1,.slice A2 f2.length c2] 131)) W.heap.size f0 f1 f2:=⟨A2,c2,by simpa using heap_alloc_new W _,hB.size,hr2⟩

/-! ### impl_field_with: function 136 -/
mutual
def impl_field_with.l0:Nat→List Int→List Int→Int→Int→Int→Int→List (List Int)→Option (List Int×Int×Int)
 |0,_,_,_,_,_,_,_=>none
 |k+1,x7,x17,x18,x19,x1000,x1001,x1002=>if x19<x18 then (if 0≤x19 then (if x19<(x17.length:Int) then ((impl_around.f x19 x1000).bind fun t404=>(if 0≤t404 then (if t404<(x1002.length:Int) then (impl_field_with.l1 k x7 (rd x17 x19) x17 x18 x19 (rd_L1 x1002 t404) ((rd_L1 x1002 t404).length:Int) 0 x1000 x1001 x1002) else (none)) else (none))) else (none)) else (none)) else (some (x7,x1000,x1001))
def impl_field_with.l1:Nat→List Int→Int→List Int→Int→Int→List Int→Int→Int→Int→Int→List (List Int)→Option (List Int×Int×Int)
 |0,_,_,_,_,_,_,_,_,_,_,_=>none
 |k+1,x7,x9,x17,x18,x19,x37,x38,x39,x1000,x1001,x1002=>if x39<x38 then (if 0≤x39 then (if x39<(x37.length:Int) then (if x39<(x7.length:Int) then (impl_field_with.l1 k (x7.set (x39:Int).toNat (wrap64 ((rd x7 x39)+(wrap64 (x9*(rd x37 x39)))))) x9 x17 x18 x19 x37 x38 (wrap64 (x39+1)) x1000 x1001 x1002) else (none)) else (none)) else (none)) else (impl_field_with.l0 k x7 x17 x18 (wrap64 (x19+1)) x1000 x1001 x1002)
end
def impl_field_with.f (k:Nat) (s0_0:Int) (s0_1:Int) (s0_2:List (List Int)) (l1:List Int) (a2:Int):Option (List Int×Int×Int):=if 0≤s0_1 then (if (s0_1:Int).toNat≤35184372088832 then (impl_field_with.l0 k (List.replicate (s0_1:Int).toNat 0) l1 (l1.length:Int) 0 s0_0 s0_1 s0_2) else (none)) else (none)
theorem impl_field_with.mono_l:∀k,(∀y0 y1 y2 y3 y4 y5 y6,LeO (impl_field_with.l0 k y0 y1 y2 y3 y4 y5 y6) (impl_field_with.l0 (k+1) y0 y1 y2 y3 y4 y5 y6))∧(∀y0 y1 y2 y3 y4 y5 y6 y7 y8 y9 y10,LeO (impl_field_with.l1 k y0 y1 y2 y3 y4 y5 y6 y7 y8 y9 y10) (impl_field_with.l1 (k+1) y0 y1 y2 y3 y4 y5 y6 y7 y8 y9 y10))
 |0=>⟨fun _ _ _ _ _ _ _ r h=>by simp [impl_field_with.l0] at h,fun _ _ _ _ _ _ _ _ _ _ _ r h=>by simp [impl_field_with.l1] at h⟩
 |k+1=>by
  obtain⟨ih0,ih1⟩:=impl_field_with.mono_l k;refine⟨?_,?_⟩
  ·intro y0 y1 y2 y3 y4 y5 y6;unfold impl_field_with.l0;repeat' first
   |(with_reducible exact ih0 _ _ _ _ _ _ _)
   |(with_reducible exact ih1 _ _ _ _ _ _ _ _ _ _ _)
   |(with_reducible exact LeO.refl _)
   |(with_reducible exact LeO.none _)
   |(with_reducible refine LeO.ite ?_ ?_)
   |(with_reducible refine LeO.bind ?_ (fun _=>?_))
   |exact ih0 _ _ _ _ _ _ _
   |exact ih1 _ _ _ _ _ _ _ _ _ _ _
   |exact LeO.none _
   |refine LeO.ite ?_ ?_
   |refine LeO.bind ?_ (fun _=>?_)
  ·intro y0 y1 y2 y3 y4 y5 y6 y7 y8 y9 y10;unfold impl_field_with.l1;repeat' first
   |(with_reducible exact ih0 _ _ _ _ _ _ _)
   |(with_reducible exact ih1 _ _ _ _ _ _ _ _ _ _ _)
   |(with_reducible exact LeO.refl _)
   |(with_reducible exact LeO.none _)
   |(with_reducible refine LeO.ite ?_ ?_)
   |(with_reducible refine LeO.bind ?_ (fun _=>?_))
   |exact ih0 _ _ _ _ _ _ _
   |exact ih1 _ _ _ _ _ _ _ _ _ _ _
   |exact LeO.none _
   |refine LeO.ite ?_ ?_
   |refine LeO.bind ?_ (fun _=>?_)
theorem impl_field_with.mono:∀a0 a1 a2 a3 a4 k,LeO (impl_field_with.f k a0 a1 a2 a3 a4) (impl_field_with.f (k+1) a0 a1 a2 a3 a4):=by
 intro a0 a1 a2 a3 a4 k;obtain⟨ih0,ih1⟩:=impl_field_with.mono_l k;unfold impl_field_with.f;repeat' first
   |(with_reducible exact ih0 _ _ _ _ _ _ _)
   |(with_reducible exact ih1 _ _ _ _ _ _ _ _ _ _ _)
   |(with_reducible exact LeO.refl _)
   |(with_reducible exact LeO.none _)
   |(with_reducible refine LeO.ite ?_ ?_)
   |(with_reducible refine LeO.bind ?_ (fun _=>?_))
   |exact ih0 _ _ _ _ _ _ _
   |exact ih1 _ _ _ _ _ _ _ _ _ _ _
   |exact LeO.none _
   |refine LeO.ite ?_ ?_
   |refine LeO.bind ?_ (fun _=>?_)
-- HAND
theorem hwi_cl (n:Int) (w:World):
  Calls Try.prog 137 #[.int .i64 n] w fun e w'=>e=.returned (.int .i64 n)∧Drawn0 w w':=by
 go_enter Try.func137,Try.ntmps137;go_wp2;go_ret;exact⟨rfl,by repeat(first|exact Drawn0.refl _|apply Drawn0.step)⟩
set_option maxHeartbeats 8000000 in
set_option maxRecDepth 100000 in
theorem impl_field_with.calls (k:Nat) (g:Nat) (s0_0:Int) (s0_1:Int) (s0_2:List (List Int)) (A1:Option Addr) (c1:Nat) (l1:List Int) (a2:Int) (r1:List Int) (r2:Int) (r3:Int) (w0 w:World) (hI:IsS131 w0 w g s0_0 s0_1 s0_2) (hB:Below w0.heap.size w0 w) (hr1:Kd.C (Kd.int .i64) w A1 l1.length l1) (hc1:l1.length≤c1) (hf1:∀ad,A1=some ad→0<l1.length→ad.block≠g) (h:impl_field_with.f k s0_0 s0_1 s0_2 l1 a2=some (r1,r2,r3)):
  Calls Try.prog 136 #[.pointer (some ⟨g,0,none⟩),.slice A1 l1.length c1,.func (.func 137) #[] #[]] w fun e w'=>∃v0_:Value,e=.returned (v0_)∧Kd.R (Kd.int .i64) 2 w' w.heap.size (fun _=>True) v0_ r1∧IsS131 w0 w' g r2 r3 s0_2∧Below w0.heap.size w0 w'∧KeepBut w w' g none:=by
 have HR1:=qAm hr1;have HC1:=qAm hc1;clear hr1 hc1;have HI0:=qAm hI;have HK:=qAm (KeepBut.refl w g none);have HL:=qAm hB.size;clear hI;have HW0:=qAm hB.size;have HB:=qAm hB;clear hB;have H:(if 0≤s0_1 then (if (s0_1:Int).toNat≤35184372088832 then (impl_field_with.l0 k (List.replicate (s0_1:Int).toNat 0) l1 (l1.length:Int) 0 s0_0 s0_1 s0_2) else (none)) else (none))=some (r1,r2,r3):=h;clear h
 by_cases c4:0≤s0_1
 ·rw [if_pos c4] at H;have c4b0:=eq_true c4;have c4b1:decide (0≤s0_1)=true:=decide_eq_true c4;clear c4
  by_cases c5:(s0_1:Int).toNat≤35184372088832
  ·rw [if_pos c5] at H;have c5b0:=eq_true c5;have c5b1:decide ((s0_1:Int).toNat≤35184372088832)=true:=decide_eq_true c5;clear c5;obtain⟨y400,hy400⟩:∃y_:List Int,y_=(List.replicate (s0_1:Int).toNat 0):=⟨_,rfl⟩
   replace H:(impl_field_with.l0 k y400 l1 (l1.length:Int) 0 s0_0 s0_1 s0_2)=some (r1,r2,r3):=by first|(rw [hy400];with_reducible exact H)|(have H2_:=(Option.bind_some _ _).symm.trans H;rw [hy400];with_reducible exact H2_)|(have H2_:=(Option.bind_some _ _).symm.trans H;with_reducible exact H2_)|with_reducible exact H|(rw [hy400];exact H)|exact H
   have Ny400:=qAm hy400;clear hy400;have H':=qAm H;clear H;obtain⟨ASz6_2,cSz6_2,HGz6,hgz6,HSz6_2⟩:=HI0.1;have hcz6_0:=cellS131_0 HGz6;have hcz6_1:=cellS131_1 HGz6;have hcz6_2:=cellS131_2 HGz6;have hfz6_0:=blk_frozen HGz6 0;have hfz6_1:=blk_frozen HGz6 1;clear HGz6 hgz6;go_enter Try.func136,Try.ntmps136;go_wp2_with (first|((with_reducible refine gate_dst (N:=16) rfl ?_);refine Kd.R_make (Kd.int .i64) _ 2 rfl (N:=16) rfl 22 _ _ rfl s0_1 rfl rfl Try.underlying22 (.int .i64 0) 8 info2 rfl (by decide) (by omega) 0 (ok:=fun _=>True) (okp:=fun _=>True) rfl (fun _ hk=>hk) trivial (of_decide_eq_true qB177) (Nat.le_trans (Nat.mul_le_mul_right _ (of_decide_eq_true qB177:s0_1.toNat≤35184372088832)) (by omega)) (Below.refl _ _) (Nat.le_refl _) ?_;intro v401 w7 ho8 hb hg_ hnew_;clear hg_ hnew_;(first|rw [← Ny400.1] at ho8|(simp only [Int.reduceToNat] at ho8;rw [← Ny400.1] at ho8));have n0_:=qAm (Kd.R_lower ho8 (keep_size (w:=w) (g:=g) (row:=none) qB80));have n1_:=qAm (IsS131.below qB45 hb);have n2_:=qAm (KeepBut.trans qB80 (KeepBut.of_below hb g none) (.inl rfl));have n3_:=qAm (below_step (by repeat(first|(with_reducible first|exact HB.1|apply below_alloc|apply pw_below_drewN|apply below_drew1|refine below_set ?_ (IsS131.ge HI0.1))|exact HB.1)) hb);clear HI0;clear HK;clear HB;have HO402:=n0_;have HI0:=n1_;have HK:=n2_;have HB:=n3_;clear n0_ n1_ n2_ n3_;clear hb ho8));try simp only [Act.put,qSa,qSc,qSb]
   go_loopg [19] k (fun kq v19 w'=>∃(x7_1:List Int) (x19_1:Int),v19=.int .i64 x19_1∧Aside0 (impl_field_with.l0 kq x7_1 l1 (l1.length:Int) x19_1 s0_0 s0_1 s0_2=some (r1,r2,r3))∧Aside0 (kq≤k)∧Aside0 (Kd.R (Kd.int .i64) 2 w' w.heap.size (fun _=>True) v401 x7_1)∧Aside0 (IsS131 w0 w' g s0_0 s0_1 s0_2)∧Aside0 (KeepBut w w' g none)∧Aside0 (Below w0.heap.size w0 w'))
   case atStart=>exact⟨(y400),(0),qB178,H',⟨Nat.le_refl _⟩,⟨by (with_reducible repeat(first|apply Kd.R_alloc|apply Kd.R_drewN|apply Kd.R_drew));exact HO402.1⟩,⟨by repeat(first|(with_reducible first|exact HI0.1|apply IsS131.alloc|apply IsS131.drewN|apply IsS131.drew|apply IsS131.set_0|apply IsS131.set_1)|exact HI0.1)⟩,⟨by repeat(first|(with_reducible first|exact HK.1|apply KeepBut.set_|apply keep_drewN|apply keep_drew|apply keep_alloc)|exact HK.1)⟩,⟨by repeat(first|(with_reducible first|exact HB.1|apply below_alloc|apply pw_below_drewN|apply below_drew1|refine below_set ?_ (IsS131.ge HI0.1))|exact HB.1)⟩⟩
   case round=>
    clear H';try clear c1
    try clear p2
    try clear c4
    try clear c4b0
    try clear c4b1
    try clear c5
    try clear c5b0
    try clear c5b1
    try clear hcz6_0
    try clear hcz6_1
    try clear hcz6_2
    try clear hfz6_0
    try clear hfz6_1
    obtain⟨x7_1,x19_1,rfl,HA,HK1,HO_7,HI0,HK,HB⟩:=hrel;cases gk with
    |zero=>exact absurd HA.1 (by simp [impl_field_with.l0])
    |succ k1=>
     have H:=HA.1;clear HA;simp only [impl_field_with.l0] at H
     by_cases c9:x19_1<(l1.length:Int)
     ·rw [if_pos c9] at H;have c9b0:decide (x19_1<(l1.length:Int))=true:=decide_eq_true c9;clear c9
      by_cases c10:0≤x19_1
      ·rw [if_pos c10] at H;have c10b0:decide (0≤x19_1)=true:=decide_eq_true c10;clear c10
       by_cases c11:x19_1<(l1.length:Int)
       ·rw [if_pos c11] at H;have c11b0:decide (x19_1<(l1.length:Int))=true:=decide_eq_true c11;clear c11;replace H:=qOb H;obtain⟨t404,A120,H⟩:=H;replace H:(if 0≤t404 then (if t404<(s0_2.length:Int) then (impl_field_with.l1 k1 x7_1 (rd l1 x19_1) l1 (l1.length:Int) x19_1 (rd_L1 s0_2 t404) ((rd_L1 s0_2 t404).length:Int) 0 s0_0 s0_1 s0_2) else (none)) else (none))=some (r1,r2,r3):=H;have A12:=qAm A120;clear A120
        by_cases c13:0≤t404
        ·rw [if_pos c13] at H;have c13b0:decide (0≤t404)=true:=decide_eq_true c13;clear c13
         by_cases c14:t404<(s0_2.length:Int)
         ·rw [if_pos c14] at H;have c14b0:decide (t404<(s0_2.length:Int))=true:=decide_eq_true c14;clear c14;have H':=qAm H;clear H;have p403:0≤(x19_1:Int):=of_decide_eq_true qB177;have q403:x19_1<(l1.length:Int):=of_decide_eq_true qB177;obtain⟨ad403,e403,hx403_0⟩:=Kd.at_int HR1.1 x19_1 p403 q403;cases e403
          replace hx403_0:=keep_cell HK.1 hx403_0 (by first|(rw [add_block];exact hf1 _ rfl (by omega))|exact hf1 _ rfl (by omega)|exact hf1 ad403 rfl (by omega));replace p403:=eq_true p403;replace q403:=eq_true q403;obtain⟨ASz15_2,cSz15_2,HGz15,hgz15,HSz15_2⟩:=HI0.1;have hcz15_0:=cellS131_0 HGz15;have hcz15_1:=cellS131_1 HGz15;have hcz15_2:=cellS131_2 HGz15;have hfz15_0:=blk_frozen HGz15 0;have hfz15_1:=blk_frozen HGz15 1;clear HGz15 hgz15;have p405:0≤(t404:Int):=of_decide_eq_true qB177;have q405:t404<(s0_2.length:Int):=of_decide_eq_true qB177;obtain⟨ad405,A405_0,c405_0,e405,hx405_0,hl405_0,hi405_0⟩:=at_L1 HSz15_2 t404 p405 q405;cases e405
          replace hx405_0:=pw_cell_below HB.1 hx405_0;have HR405_0:=qAm hi405_0;have HC405_0:=qAm hl405_0;clear hi405_0 hl405_0;replace p405:=eq_true p405;replace q405:=eq_true q405;go_wp2_with fail;go_region_with (first|(go_at_call 137;(try simp only [i64_w]);refine(hwi_cl _ _).mono ?_;(try simp only [i64_w]);rintro e w' ⟨rfl,⟨nd,rfl⟩⟩)|(go_at_call 88;(try simp only [i64_w]);(with_reducible refine(impl_around.calls x19_1 s0_0 t404 _ A12.1).mono ?_);rintro e w' ⟨rfl,⟨nd,rfl⟩⟩))
          all_goals
           go_wp2;try simp only [List.getElem_toArray,List.getElem_cons_succ,List.getElem_cons_zero,Act.put,qSa,qSc,qSb]
           try simp only [Act.put,qSa,qSc,qSb]
           go_loopg [39] k1 (fun kq v39 w'=>∃(x7_2:List Int) (x39_2:Int),v39=.int .i64 x39_2∧Aside0 (impl_field_with.l1 kq x7_2 (rd l1 x19_1) l1 (l1.length:Int) x19_1 (rd_L1 s0_2 t404) ((rd_L1 s0_2 t404).length:Int) x39_2 s0_0 s0_1 s0_2=some (r1,r2,r3))∧Aside0 (kq≤k1)∧Aside0 (Kd.R (Kd.int .i64) 2 w' w.heap.size (fun _=>True) v401 x7_2)∧Aside0 (IsS131 w0 w' g s0_0 s0_1 s0_2)∧Aside0 (KeepBut w w' g none)∧Aside0 (Below w0.heap.size w0 w'))
           case atStart=>exact⟨(x7_1),(0),qB178,H',⟨Nat.le_refl _⟩,⟨by (with_reducible repeat(first|apply Kd.R_alloc|apply Kd.R_drewN|apply Kd.R_drew));exact HO_7.1⟩,⟨by repeat(first|(with_reducible first|exact HI0.1|apply IsS131.alloc|apply IsS131.drewN|apply IsS131.drew|apply IsS131.set_0|apply IsS131.set_1)|exact HI0.1)⟩,⟨by repeat(first|(with_reducible first|exact HK.1|apply KeepBut.set_|apply keep_drewN|apply keep_drew|apply keep_alloc)|exact HK.1)⟩,⟨by repeat(first|(with_reducible first|exact HB.1|apply below_alloc|apply pw_below_drewN|apply below_drew1|refine below_set ?_ (IsS131.ge HI0.1))|exact HB.1)⟩⟩
           case round=>
            clear H';try clear c1
            try clear p2
            try clear c4
            try clear c4b0
            try clear c4b1
            try clear p4
            try clear q4
            try clear hx4
            try clear c5
            try clear c5b0
            try clear c5b1
            try clear c8
            try clear c9
            try clear c9b0
            try clear c10
            try clear c10b0
            try clear c11
            try clear c11b0
            try clear c13
            try clear c13b0
            try clear c14
            try clear c14b0
            try clear hcz15_0
            try clear hcz15_1
            try clear hcz15_2
            try clear hcz6_0
            try clear hcz6_1
            try clear hcz6_2
            try clear hfz15_0
            try clear hfz15_1
            try clear hfz6_0
            try clear hfz6_1
            try clear hx403_0
            try clear hx405_0
            try clear p2
            try clear p403
            try clear p405
            try clear q403
            try clear q405
            obtain⟨x7_2,x39_2,rfl,HA,HK2,HO_7,HI0,HK,HB⟩:=hrel;cases gk with
            |zero=>exact absurd HA.1 (by simp [impl_field_with.l1])
            |succ k2=>
             have H:=HA.1;clear HA;simp only [impl_field_with.l1] at H
             by_cases c16:x39_2<((rd_L1 s0_2 t404).length:Int)
             ·rw [if_pos c16] at H;have c16b0:decide (x39_2<((rd_L1 s0_2 t404).length:Int))=true:=decide_eq_true c16;clear c16
              by_cases c17:0≤x39_2
              ·rw [if_pos c17] at H;have c17b0:decide (0≤x39_2)=true:=decide_eq_true c17;clear c17
               by_cases c18:x39_2<((rd_L1 s0_2 t404).length:Int)
               ·rw [if_pos c18] at H;have c18b0:decide (x39_2<((rd_L1 s0_2 t404).length:Int))=true:=decide_eq_true c18;clear c18
                by_cases c19:x39_2<(x7_2.length:Int)
                ·rw [if_pos c19] at H;have c19b0:decide (x39_2<(x7_2.length:Int))=true:=decide_eq_true c19;clear c19;obtain⟨y408,hy408⟩:∃y_:List Int,y_=(x7_2.set (x39_2:Int).toNat (wrap64 ((rd x7_2 x39_2)+(wrap64 ((rd l1 x19_1)*(rd (rd_L1 s0_2 t404) x39_2)))))):=⟨_,rfl⟩
                 replace H:(impl_field_with.l1 k2 y408 (rd l1 x19_1) l1 (l1.length:Int) x19_1 (rd_L1 s0_2 t404) ((rd_L1 s0_2 t404).length:Int) (wrap64 (x39_2+1)) s0_0 s0_1 s0_2)=some (r1,r2,r3):=by first|(rw [hy408];with_reducible exact H)|(have H2_:=(Option.bind_some _ _).symm.trans H;rw [hy408];with_reducible exact H2_)|(have H2_:=(Option.bind_some _ _).symm.trans H;with_reducible exact H2_)|with_reducible exact H|(rw [hy408];exact H)|exact H
                 have Ny408:=qAm hy408;clear hy408;have H':=qAm H;clear H;have p406:0≤(x39_2:Int):=of_decide_eq_true qB177;have q406:x39_2<((rd_L1 s0_2 t404).length:Int):=of_decide_eq_true qB177;obtain⟨ad406,e406,hx406_0⟩:=Kd.at_int HR405_0.1 x39_2 p406 q406;cases e406
                 replace hx406_0:=pw_cell_below HB.1 hx406_0;replace p406:=eq_true p406;replace q406:=eq_true q406;obtain⟨Ao21,co21,eo21⟩:=Kd.R_slice HO_7.1;subst eo21;have p407:0≤(x39_2:Int):=of_decide_eq_true qB177;have q407:x39_2<(x7_2.length:Int):=of_decide_eq_true qB177;obtain⟨ad407,e407,hx407_0⟩:=Kd.at_int (Kd.R_reads' HO_7.1).2.2 x39_2 p407 q407;cases e407
                 replace p407:=eq_true p407;replace q407:=eq_true q407;have p20:0≤(x39_2:Int):=of_decide_eq_true qB177;have q20:(x39_2:Int)<((x7_2.length:Int):Int):=of_decide_eq_true qB177;obtain⟨go20,co20,eo20,gb20,gl20,cl20,HG20⟩:=Kd.R_form HO_7.1 (by omega)
                 (first|cases eo20|(injection eo20 with ea_ en_ ec_;(first|subst ea_|(injection ea_ with ea_;subst ea_));subst ec_;clear en_))
                 have GB20:=qAm gb20;have GG20:=qAm HG20;clear gb20 gl20 HG20
                 (first|simp only [add_plain] at hx407_0|skip)
                 obtain⟨hx20_0,hf20_0⟩:=Kd.R_celln 0 HO_7.1 (x39_2:Int) p20 q20;replace p20:=eq_true p20;replace q20:=eq_true q20;have HP22:=Kd.R_putg HO_7.1 (x39_2:Int) (wrap64 ((rd x7_2 x39_2)+(wrap64 ((rd l1 x19_1)*(rd (rd_L1 s0_2 t404) x39_2)))));go_wp2_with (first|((with_reducible refine gate_store (t:=2) (p:=52) rfl ?_);refine store_event (t:=2) (p:=52) (v:=?vo_w23) (w1:=(wr.setCell ⟨go20,(x39_2:Int).toNat,none⟩ (.int .i64 (wrap64 ((rd x7_2 x39_2)+(wrap64 ((rd l1 x19_1)*(rd (rd_L1 s0_2 t404) x39_2)))))))) ?hg ?ho ?hn ?hr ?_;(case ho=>rfl);(case hg=>rfl);(case hn=>rfl);(case hr=>first|(go_simp;done)|(go_simp;rfl));intro w23 hw;have hg:wr.grownBy w23 (some go20):=(by rw [hw];exact HP22.2);have hp_:Kd.R (Kd.int .i64) 2 w23 w.heap.size (fun _=>True) (.slice (some ⟨go20,0,none⟩) x7_2.length co21) y408:=(by rw [hw,Ny408.1];exact HP22.1);clear HP22;have n0_:=qAm (hp_);have n1_:=qAm (IsS131.grown qB45 hg (IsS131.own_ne HI0.1 HO_7.1 (by decide)));have n2_:=qAm ((by rw [hw];exact below_set (HB.1) (Nat.le_trans HL.1 GB20.1):Below w0.heap.size w0 w23));have n3_:=qAm (KeepBut.trans qB80 (KeepBut.of_grown hg g) (Kd.R_base2 HO_7.1));clear HO_7;clear HI0;clear HB;clear HK;have HO_7:=n0_;have HI0:=n1_;have HB:=n2_;have HK:=n3_;clear n0_ n1_ n2_ n3_;clear hg hw hp_))
                 (first|go_roundg k2|((try simp only [add_plain] at *);go_roundg k2))
                 case measure=>have:=HK1.1;have:=HK2.1;omega
                 case rel=>exact⟨(y408),(wrap64 (x39_2+1)),qB178,H',⟨by have:=HK1.1;have:=HK2.1;omega⟩,⟨by (with_reducible repeat(first|apply Kd.R_alloc|apply Kd.R_drewN|apply Kd.R_drew));exact HO_7.1⟩,⟨by repeat(first|(with_reducible first|exact HI0.1|apply IsS131.alloc|apply IsS131.drewN|apply IsS131.drew|apply IsS131.set_0|apply IsS131.set_1)|exact HI0.1)⟩,⟨by repeat(first|(with_reducible first|exact HK.1|apply KeepBut.set_|apply keep_drewN|apply keep_drew|apply keep_alloc)|exact HK.1)⟩,⟨by repeat(first|(with_reducible first|exact HB.1|apply below_alloc|apply pw_below_drewN|apply below_drew1|refine below_set ?_ (IsS131.ge HI0.1))|exact HB.1)⟩⟩
                ·rw [if_neg c19] at H;exact absurd H (by simp)
               ·rw [if_neg c18] at H;exact absurd H (by simp)
              ·rw [if_neg c17] at H;exact absurd H (by simp)
             ·rw [if_neg c16] at H;have c16b0:decide (x39_2<((rd_L1 s0_2 t404).length:Int))=false:=decide_eq_false c16;clear c16;have H':=qAm H;clear H;go_wp2
              (first|go_roundg k2|((try simp only [add_plain] at *);go_roundg k2))
              case measure=>have:=HK1.1;have:=HK2.1;omega
              case rel=>exact⟨(x7_2),(wrap64 (x19_1+1)),qB178,H',⟨by have:=HK1.1;have:=HK2.1;omega⟩,⟨by (with_reducible repeat(first|apply Kd.R_alloc|apply Kd.R_drewN|apply Kd.R_drew));exact HO_7.1⟩,⟨by repeat(first|(with_reducible first|exact HI0.1|apply IsS131.alloc|apply IsS131.drewN|apply IsS131.drew|apply IsS131.set_0|apply IsS131.set_1)|exact HI0.1)⟩,⟨by repeat(first|(with_reducible first|exact HK.1|apply KeepBut.set_|apply keep_drewN|apply keep_drew|apply keep_alloc)|exact HK.1)⟩,⟨by repeat(first|(with_reducible first|exact HB.1|apply below_alloc|apply pw_below_drewN|apply below_drew1|refine below_set ?_ (IsS131.ge HI0.1))|exact HB.1)⟩⟩
         ·rw [if_neg c14] at H;exact absurd H (by simp)
        ·rw [if_neg c13] at H;exact absurd H (by simp)
       ·rw [if_neg c11] at H;exact absurd H (by simp)
      ·rw [if_neg c10] at H;exact absurd H (by simp)
     ·rw [if_neg c9] at H;have c9b0:decide (x19_1<(l1.length:Int))=false:=decide_eq_false c9;clear c9;simp only [Option.some.injEq,Prod.mk.injEq] at H;obtain⟨rfl,rfl,rfl⟩:=H;go_wp2;go_ret;exact⟨_,by first|rfl|(simp [errW_none,errW_some] <;> rfl)|(simp [*,errW_none,errW_some] <;> rfl),by (with_reducible repeat(first|apply Kd.R_alloc|apply Kd.R_drewN|apply Kd.R_drew));exact HO_7.1,by repeat(first|(with_reducible first|exact HI0.1|apply IsS131.alloc|apply IsS131.drewN|apply IsS131.drew|apply IsS131.set_0|apply IsS131.set_1)|exact HI0.1),by repeat(first|(with_reducible first|exact HB.1|apply below_alloc|apply pw_below_drewN|apply below_drew1|refine below_set ?_ (IsS131.ge HI0.1))|exact HB.1),by repeat(first|(with_reducible first|exact HK.1|apply KeepBut.set_|apply keep_drewN|apply keep_drew|apply keep_alloc)|exact HK.1)⟩
  ·rw [if_neg c5] at H;exact absurd H (by simp)
 ·rw [if_neg c4] at H;exact absurd H (by simp)

/-! ### impl_counted: function 114 -/
def impl_counted.f (k:Nat) (a0:Int) (l1:List Int):Option (List Int):=(impl_fieldOf.f k a0).bind fun b=>((impl_field_with.f k b.1 b.2.1 b.2.2 l1 0).bind fun d=>(some d.1))
theorem impl_counted.mono:∀a0 a1 k,LeO (impl_counted.f k a0 a1) (impl_counted.f (k+1) a0 a1):=by
 intro a0 a1 k;unfold impl_counted.f;repeat' first
   |(with_reducible exact impl_fieldOf.mono _ _)
   |(with_reducible exact LeO.refl _)
   |(with_reducible exact LeO.none _)
   |(with_reducible refine LeO.ite ?_ ?_)
   |(with_reducible refine LeO.bind ?_ (fun _=>?_))
   |exact impl_fieldOf.mono _ _
   |exact impl_field_with.mono _ _ _ _ _ _
   |exact LeO.none _
   |refine LeO.ite ?_ ?_
   |refine LeO.bind ?_ (fun _=>?_)
set_option maxHeartbeats 8000000 in
set_option maxRecDepth 100000 in
-- HAND
theorem impl_counted.calls (k:Nat) (a0:Int) (A1:Option Addr) (c1:Nat) (l1:List Int) (r:List Int) (w:World) (hr1:Kd.C (Kd.int .i64) w A1 l1.length l1) (hc1:l1.length≤c1) (h:impl_counted.f k a0 l1=some r):
  Calls Try.prog 114 #[.int .i64 a0,.slice A1 l1.length c1] w fun e w'=>∃v0_:Value,e=.returned (v0_)∧Kd.R (Kd.int .i64) 2 w' w.heap.size (fun _=>True) v0_ r∧Below w.heap.size w w':=by
 have hu131:=Try.underlying131;have HR1:=qAm hr1;have HC1:=qAm hc1;clear hr1 hc1;have HB:=qAm (Below.refl w.heap.size w);unfold impl_counted.f at h;obtain⟨⟨t409,t410,t411⟩,AF0,H⟩:=qOb h;clear h;have AF:=qAm AF0;clear AF0;obtain⟨⟨d1,d2,d3⟩,D0,H⟩:=qOb H;have D:=qAm D0;clear D0;simp only [Option.some.injEq] at H;subst H;go_enter Try.func114,Try.ntmps114;go_wp2_with (first|((with_reducible refine gate_callee (f:=135) rfl ?_);refine goesL_ (some 7) rfl rfl Try.func135 (by kernel_rfl) rfl #[.int .i64 a0] rfl qB90 ?_;(with_reducible refine(impl_fieldOf.calls k a0 t409 t410 t411 _ AF.1).mono ?_);rintro e w4 ⟨v412,rfl,ho0,hb⟩;refine⟨_,rfl,?_⟩;have HCc:=qAm ho0;have HBc:=qAm (Below.refl w4.heap.size w4);have n0_:=qAm (Kd.N_lower (Kd.N_mono (ok':=fun k_=>True) ho0 (fun k_ hk_=>trivial)) (below_size qB95));have n1_:=qAm (below_step qB95 hb);clear HB;have HO413:=n0_;have HB:=n1_;clear n0_ n1_;(try clear hb);(try clear hb2);(try clear hk);(try clear hi);(try clear ho0);have HBX:=qAm HB.1)|((with_reducible refine gate_dst (N:=5) rfl ?_);refine box_event ?hg (N:=5) ?hd (cs:=#[.int .i64 0,.int .i64 0,.slice none 0 0]) (t:=131) ?hr ?_;(case hd=>rfl);(case hg=>rfl);(case hr=>first|(go_simp;done)|(go_simp;rfl));intro gb414 hg w5 hbox hb;have HGc:Aside0 (w4.heap.size≤gb414):=qAm (by rw [hg];exact below_size qB176);have HBd:=qAm (below_step qB176 hb);clear HBc;have HBc:=HBd;clear HBd;have n0_:=qAm (Kd.N_below (Kd.N_elderB (by (with_reducible repeat(first|apply Kd.N_alloc|apply Kd.N_drewN|apply Kd.N_drew));exact HO413.1) gb414 (Nat.le_of_eq hg.symm)) hb);have n1_:=qAm (below_step qB95 hb);have n2_:=qAm (hbox);have n3_:=qAm ((by rw [hg];exact(below_size qB95):w.heap.size≤gb414));have n4_:=qAm ((by rw [hg];exact(below_size qB95):w.heap.size≤gb414));clear HO413;clear HB;have HO413:=n0_;have HB:=n1_;have BK414:=n2_;have GW414:=n3_;have GE414:=n4_;clear n0_ n1_ n2_ n3_ n4_;clear hb hbox hg;have hcz6_0:w5.cell? ⟨gb414,0,none⟩=some (.int .i64 0):=(blk_cell BK414.1 0).trans rfl;have hcz6_1:w5.cell? ⟨gb414,1,none⟩=some (.int .i64 0):=(blk_cell BK414.1 1).trans rfl;have hcz6_2:w5.cell? ⟨gb414,2,none⟩=some (.slice none 0 0):=(blk_cell BK414.1 2).trans rfl;have hfz6_0:=blk_frozen BK414.1 0;have hfz6_1:=blk_frozen BK414.1 1;have hfz6_2:=blk_frozen BK414.1 2;obtain⟨Ao7,co7,eo7⟩:=Kd.N_slice HO413.1;subst eo7)|((with_reducible refine gate_callee (f:=136) rfl ?_);refine goesL_ (some 9) rfl rfl Try.func136 (by kernel_rfl) rfl #[.pointer (some ⟨gb414,0,none⟩),.slice A1 l1.length c1,.func (.func 137) #[] #[]] rfl (by (try simp only [List.map_toArray,List.map_cons,List.map_nil]);first|done|rfl) ?_;(with_reducible refine(impl_field_with.calls k gb414 t409 t410 t411 A1 c1 l1 0 d1 d2 d3 w4 _ ?side1 ?side2 ?side3 HC1.1 ?side4 D.1).mono ?_);(case side1=>exact⟨Ao7,co7,(by (with_reducible repeat(first|refine blk_drewN ?_ _|refine blk_drew ?_|refine blk_alloc ?_ _));refine blk_put (cs:=#[.int .i64 t409,.int .i64 t410,.slice none 0 0]) ?_ 2 _ rfl;(with_reducible repeat(first|refine blk_drewN ?_ _|refine blk_drew ?_|refine blk_alloc ?_ _));refine blk_put (cs:=#[.int .i64 t409,.int .i64 0,.slice none 0 0]) ?_ 1 _ rfl;(with_reducible repeat(first|refine blk_drewN ?_ _|refine blk_drew ?_|refine blk_alloc ?_ _));refine blk_put (cs:=#[.int .i64 0,.int .i64 0,.slice none 0 0]) ?_ 0 _ rfl;(with_reducible repeat(first|refine blk_drewN ?_ _|refine blk_drew ?_|refine blk_alloc ?_ _));exact BK414.1),HGc.1,(Kd.N_reads' HCc.1).2.2⟩);(case side2=>exact(by repeat(first|exact HBc.1|apply below_alloc|apply pw_below_drewN|apply below_drew1|refine below_set ?_ HGc.1)));(case side3=>exact Kd.C_below HR1.1 qB67);(case side4=>exact Kd.far_C (0:Int) HR1.1 GE414.1);rintro e wY ⟨v416,rfl,ho1,hi1,hb1,hk1⟩;refine⟨_,rfl,?_⟩;have n0_:=qAm (Kd.R_lower ho1 (below_size qB67));have n1_:=qAm (below_step HBX.1 hb1);clear HB;have HO417:=n0_;have HB:=n1_;clear n0_ n1_ ho1 hi1 hb1 hk1));go_ret;exact⟨_,by first|rfl|(simp [errW_none,errW_some] <;> rfl)|(simp [*,errW_none,errW_some] <;> rfl),by (with_reducible repeat(first|apply Kd.R_alloc|apply Kd.R_drewN|apply Kd.R_drew));exact HO417.1,by repeat(first|(with_reducible first|exact HB.1|apply below_alloc|apply pw_below_drewN|apply below_drew1|refine below_set ?_ GE414.1)|exact HB.1)⟩

end Go.Proofs.Ytefhabkikaadiaa.PFnExactOrthogonalSum
