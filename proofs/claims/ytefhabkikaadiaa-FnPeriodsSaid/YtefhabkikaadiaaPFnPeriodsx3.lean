/- The functions that the law reaches, as plain functions, each with the proof that the program comes to it; no condition. Written by a program of this session (wip/mp.py) over the printing of the kit; what is marked HAND is told by hand. -/
import Derived.Test.YtefhabkikaadiaaPFnPeriodsx0
import Derived.Test.YtefhabkikaadiaaPFnPeriodsx2
namespace Go.Proofs.Ytefhabkikaadiaa.PFnPeriods
open Go.RowKit Go.Proofs.YtefhabkikaadiaaW.PrintWords Go.Proofs.YtefhabkikaadiaaW.PrintLast Go.Proofs.YtefhabkikaadiaaW.PrintMore
attribute [local go_sem] max2_int min2_int max_two min_two max_three min_three max_four min_four   -- for this text's walks alone
set_option linter.unusedVariables false
set_option linter.unusedSimpArgs false

/-- A state of type 97 at block g of W; what its slices lead to came in by w0. -/
def IsS97 (w0 W:World) (g:Nat) (f0:Int) (f1:Int) (f2:Int) (f3:List Int):Prop:=∃A3 c3,W.heap[g]? =some (.cells #[.int .i64 f0,.int .i64 f1,.int .i64 f2,.slice A3 f3.length c3] 97 (0,0))∧w0.heap.size≤g∧Kd.C (Kd.int .i64) w0 A3 f3.length f3
theorem IsS97.grown {w0 W:World} {g:Nat} {f0:Int} {f1:Int} {f2:Int} {f3:List Int} {W1:World} {row:Option Nat} (h:IsS97 w0 W g f0 f1 f2 f3) (hw:W.grownBy W1 row) (hne:some g≠row):IsS97 w0 W1 g f0 f1 f2 f3:=by
  obtain⟨A3,c3,hb,hg,hr3⟩:=h;exact⟨A3,c3,blk_grown hb hw hne,hg,hr3⟩
theorem IsS97.own_neN {w0 W:World} {g:Nat} {f0:Int} {f1:Int} {f2:Int} {f3:List Int} {α:Type} {d:Kd α} {e:Nat} {base:Nat} {ok:Nat→Prop} {v:Value} {xs:List α} (h:IsS97 w0 W g f0 f1 f2 f3) (ho:Kd.N d e W base ok v xs) (ht:e≠97):some g≠v.ownBlock:=by
  obtain⟨A3,c3,hb,hg,hr3⟩:=h;exact Kd.N_ne ho hb ht
theorem IsS97.fresh {w0 W:World} {g:Nat} {f0:Int} {f1:Int} {f2:Int} {f3:List Int} (h:IsS97 w0 W g f0 f1 f2 f3):∀k,W.heap.size≤k→k≠g:=by
  obtain⟨A3,c3,hb,hg,hr3⟩:=h;exact Kd.freshB hb
theorem IsS97.kept {w0 W:World} {g:Nat} {f0:Int} {f1:Int} {f2:Int} {f3:List Int} {W1:World} {S:Nat→Prop} (h:IsS97 w0 W g f0 f1 f2 f3) (hk:Kept W W1 S) (hne:¬S g):IsS97 w0 W1 g f0 f1 f2 f3:=by
  obtain⟨A3,c3,hb,hg,hr3⟩:=h;exact⟨A3,c3,blk_kept hb hk hne,hg,hr3⟩
theorem IsS97.below {w0 W:World} {g:Nat} {f0:Int} {f1:Int} {f2:Int} {f3:List Int} {W1:World} (h:IsS97 w0 W g f0 f1 f2 f3) (hw:Below W.heap.size W W1):IsS97 w0 W1 g f0 f1 f2 f3:=h.grown (grown_of_below hw none) (by simp)
theorem IsS97.alloc {w0 W:World} {g:Nat} {f0:Int} {f1:Int} {f2:Int} {f3:List Int} (h:IsS97 w0 W g f0 f1 f2 f3) (o:Obj):IsS97 w0 (W.alloc o) g f0 f1 f2 f3:=h.below (below_alloc (Below.refl _ _) o)
theorem IsS97.drewN {w0 W:World} {g:Nat} {f0:Int} {f1:Int} {f2:Int} {f3:List Int} (h:IsS97 w0 W g f0 f1 f2 f3) (m:Nat):IsS97 w0 (W.drewN m) g f0 f1 f2 f3:=h
theorem IsS97.drew {w0 W:World} {g:Nat} {f0:Int} {f1:Int} {f2:Int} {f3:List Int} (h:IsS97 w0 W g f0 f1 f2 f3):IsS97 w0 W.drew g f0 f1 f2 f3:=h
theorem IsS97.at_ {w0 W:World} {g:Nat} {f0:Int} {f1:Int} {f2:Int} {f3:List Int} {w':World} {m:Nat} (hq:W.drewN m=w') (h:IsS97 w0 W g f0 f1 f2 f3):IsS97 w0 w' g f0 f1 f2 f3:=by subst hq;exact IsS97.drewN h m
theorem IsS97.apart {w0 W:World} {g:Nat} {f0:Int} {f1:Int} {f2:Int} {f3:List Int} {α:Type} {d:Kd α} {e:Nat} {base:Nat} {ok:Nat→Prop} {v:Value} {xs:List α} (h:IsS97 w0 W g f0 f1 f2 f3) (ho:d.R e W base ok v xs) (ht:∀q,q∈e::d.E→q≠97):d.R e W base (fun k=>ok k∧k≠g) v xs:=by
  obtain⟨A3,c3,hb,hg,hr3⟩:=h;exact Kd.R_types ho hb ht
theorem IsS97.own_ne {w0 W:World} {g:Nat} {f0:Int} {f1:Int} {f2:Int} {f3:List Int} {α:Type} {d:Kd α} {e:Nat} {base:Nat} {ok:Nat→Prop} {v:Value} {xs:List α} (h:IsS97 w0 W g f0 f1 f2 f3) (ho:d.R e W base ok v xs) (ht:e≠97):some g≠v.ownBlock:=by
  obtain⟨A3,c3,hb,hg,hr3⟩:=h;exact Kd.R_ne ho hb ht
theorem IsS97.apartQ {w0 W:World} {g:Nat} {f0:Int} {f1:Int} {f2:Int} {f3:List Int} {α:Type} {d:Kd α} {e:Nat} {base:Nat} {ok:Nat→Prop} {v:Value} {xs:List α} (h:IsS97 w0 W g f0 f1 f2 f3) (ho:d.Q e W base ok v xs) (ht:∀q,q∈e::d.E→q≠97):d.Q e W base (fun k=>ok k∧k≠g) v xs:=by
  obtain⟨A3,c3,hb,hg,hr3⟩:=h;exact Kd.Q_types ho hb ht
theorem IsS97.own_neQ {w0 W:World} {g:Nat} {f0:Int} {f1:Int} {f2:Int} {f3:List Int} {α:Type} {d:Kd α} {e:Nat} {base:Nat} {ok:Nat→Prop} {v:Value} {xs:List α} (h:IsS97 w0 W g f0 f1 f2 f3) (ho:d.Q e W base ok v xs) (ht:e≠97):some g≠v.ownBlock:=by
  obtain⟨A3,c3,hb,hg,hr3⟩:=h;exact Kd.Q_ne ho hb ht
theorem IsS97.apartS {w0 W:World} {g:Nat} {f0:Int} {f1:Int} {f2:Int} {f3:List Int} {α:Type} {d:Kd α} {e:Nat} {base:Nat} {ok:Nat→Prop} {v:Value} {xs:List α} (h:IsS97 w0 W g f0 f1 f2 f3) (ho:d.S e W base ok v xs) (ht:∀q,q∈e::d.E→q≠97):d.S e W base (fun k=>ok k∧k≠g) v xs:=by
  obtain⟨A3,c3,hb,hg,hr3⟩:=h;exact Kd.S_types ho hb ht
theorem IsS97.own_neS {w0 W:World} {g:Nat} {f0:Int} {f1:Int} {f2:Int} {f3:List Int} {α:Type} {d:Kd α} {e:Nat} {base:Nat} {ok:Nat→Prop} {v:Value} {xs:List α} (h:IsS97 w0 W g f0 f1 f2 f3) (ho:d.S e W base ok v xs) (ht:e≠97):some g≠v.ownBlock:=by
  obtain⟨A3,c3,hb,hg,hr3⟩:=h;exact Kd.S_ne ho hb ht
theorem IsS97.lt {w0 W:World} {g:Nat} {f0:Int} {f1:Int} {f2:Int} {f3:List Int} (h:IsS97 w0 W g f0 f1 f2 f3):g<W.heap.size:=by
  obtain⟨A3,c3,hb,hg,hr3⟩:=h;exact blk_lt hb
theorem IsS97.ge {w0 W:World} {g:Nat} {f0:Int} {f1:Int} {f2:Int} {f3:List Int} (h:IsS97 w0 W g f0 f1 f2 f3):w0.heap.size≤g:=by
  obtain⟨A3,c3,hb,hg,hr3⟩:=h;exact hg
theorem IsS97.ne_blk {w0 W:World} {g:Nat} {f0:Int} {f1:Int} {f2:Int} {f3:List Int} {a:Nat} {cs:Array Value} {t:TypeId} {fr:Nat×Nat} (h:IsS97 w0 W g f0 f1 f2 f3) (hb2:W.heap[a]? =some (.cells cs t fr)) (ht:t≠97):g≠a:=by
  obtain⟨A3,c3,hb,hg,hr3⟩:=h;rintro rfl;rw [hb] at hb2;injection hb2 with hb2
  injection hb2 with _ ht2
  exact ht ht2.symm
theorem IsS97.far {w0 W:World} {g:Nat} {f0:Int} {f1:Int} {f2:Int} {f3:List Int} {p:Addr} (h:IsS97 w0 W g f0 f1 f2 f3) (hne:g≠p.block) (u:Value):IsS97 w0 (W.setCell p u) g f0 f1 f2 f3:=by
  obtain⟨A3,c3,hb,hg,hr3⟩:=h;exact⟨A3,c3,blk_far hb hne u,hg,hr3⟩
theorem cellS97_0 {W:World} {g:Nat} {A3:Option Addr} {c3:Nat} {f0:Int} {f1:Int} {f2:Int} {f3:List Int} (h:W.heap[g]? =some (.cells #[.int .i64 f0,.int .i64 f1,.int .i64 f2,.slice A3 f3.length c3] 97 (0,0))):W.cell? ⟨g,0,none⟩=some (.int .i64 f0):=(blk_cell h 0).trans rfl
theorem IsS97.set_0 {w0 W:World} {g:Nat} {f0:Int} {f1:Int} {f2:Int} {f3:List Int} (h:IsS97 w0 W g f0 f1 f2 f3) (x:Int):IsS97 w0 (W.setCell ⟨g,0,none⟩ (.int .i64 x)) g x f1 f2 f3:=by
  obtain⟨A3,c3,hb,hg,hr3⟩:=h;exact⟨A3,c3,by simpa using blk_set hb 0 (.int .i64 x),hg,hr3⟩
theorem cellS97_1 {W:World} {g:Nat} {A3:Option Addr} {c3:Nat} {f0:Int} {f1:Int} {f2:Int} {f3:List Int} (h:W.heap[g]? =some (.cells #[.int .i64 f0,.int .i64 f1,.int .i64 f2,.slice A3 f3.length c3] 97 (0,0))):W.cell? ⟨g,1,none⟩=some (.int .i64 f1):=(blk_cell h 1).trans rfl
theorem IsS97.set_1 {w0 W:World} {g:Nat} {f0:Int} {f1:Int} {f2:Int} {f3:List Int} (h:IsS97 w0 W g f0 f1 f2 f3) (x:Int):IsS97 w0 (W.setCell ⟨g,1,none⟩ (.int .i64 x)) g f0 x f2 f3:=by
  obtain⟨A3,c3,hb,hg,hr3⟩:=h;exact⟨A3,c3,by simpa using blk_set hb 1 (.int .i64 x),hg,hr3⟩
theorem cellS97_2 {W:World} {g:Nat} {A3:Option Addr} {c3:Nat} {f0:Int} {f1:Int} {f2:Int} {f3:List Int} (h:W.heap[g]? =some (.cells #[.int .i64 f0,.int .i64 f1,.int .i64 f2,.slice A3 f3.length c3] 97 (0,0))):W.cell? ⟨g,2,none⟩=some (.int .i64 f2):=(blk_cell h 2).trans rfl
theorem IsS97.set_2 {w0 W:World} {g:Nat} {f0:Int} {f1:Int} {f2:Int} {f3:List Int} (h:IsS97 w0 W g f0 f1 f2 f3) (x:Int):IsS97 w0 (W.setCell ⟨g,2,none⟩ (.int .i64 x)) g f0 f1 x f3:=by
  obtain⟨A3,c3,hb,hg,hr3⟩:=h;exact⟨A3,c3,by simpa using blk_set hb 2 (.int .i64 x),hg,hr3⟩
theorem cellS97_3 {W:World} {g:Nat} {A3:Option Addr} {c3:Nat} {f0:Int} {f1:Int} {f2:Int} {f3:List Int} (h:W.heap[g]? =some (.cells #[.int .i64 f0,.int .i64 f1,.int .i64 f2,.slice A3 f3.length c3] 97 (0,0))):W.cell? ⟨g,3,none⟩=some (.slice A3 f3.length c3):=(blk_cell h 3).trans rfl
theorem IsS97.new (w0 W:World) (A3:Option Addr) (c3:Nat) (f0:Int) (f1:Int) (f2:Int) (f3:List Int) (hB:Below w0.heap.size w0 W) (hr3:Kd.C (Kd.int .i64) w0 A3 f3.length f3):IsS97 w0 (W.alloc (.cells #[.int .i64 f0,.int .i64 f1,.int .i64 f2,.slice A3 f3.length c3] 97)) W.heap.size f0 f1 f2 f3:=⟨A3,c3,by simpa using heap_alloc_new W _,hB.size,hr3⟩

/-! ### impl_periods_table: function 92 -/
mutual
def impl_periods_table.l0:Nat→List (List Int)→Int→Int→Int→Int→Int→List Int→Option ((List (List Int))×Int×Int×Int)
  |0,_,_,_,_,_,_,_=>none
  |k+1,x3,x12,x13,x1000,x1001,x1002,x1003=>if x13<x12 then (if 0≤x1001 then (if (x1001:Int).toNat≤35184372088832 then (if 0≤x13 then (if x13<(x3.length:Int) then (impl_periods_table.l0 k (x3.set (x13:Int).toNat (List.replicate (x1001:Int).toNat 0)) x12 (wrap64 (x13+1)) x1000 x1001 x1002 x1003) else (none)) else (none)) else (none)) else (none)) else (impl_periods_table.l1 k x3 1 x1000 x1001 x1002 x1003)
def impl_periods_table.l1:Nat→List (List Int)→Int→Int→Int→Int→List Int→Option ((List (List Int))×Int×Int×Int)
  |0,_,_,_,_,_,_=>none
  |k+1,x3,x5,x1000,x1001,x1002,x1003=>if x5<(wrap64 (x1000 - 1)) then (if 0≤x5 then (if x5<(x1003.length:Int) then (if 0≤(rd x1003 x5) then (if (rd x1003 x5)<(x3.length:Int) then (if 0≤(wrap64 (x5+1)) then (if (wrap64 (x5+1))<(x1003.length:Int) then (if 0≤(rd x1003 (wrap64 (x5+1))) then (if (rd x1003 (wrap64 (x5+1)))<((rd_L2 x3 (rd x1003 x5)).length:Int) then (impl_periods_table.l1 k (x3.set ((rd x1003 x5):Int).toNat ((rd_L2 x3 (rd x1003 x5)).set ((rd x1003 (wrap64 (x5+1))):Int).toNat (wrap64 ((rd (rd_L2 x3 (rd x1003 x5)) (rd x1003 (wrap64 (x5+1))))+1)))) (wrap64 (x5+1)) x1000 x1001 x1002 x1003) else (none)) else (none)) else (none)) else (none)) else (none)) else (none)) else (none)) else (none)) else (some (x3,x1000,x1001,x1002))
end
def impl_periods_table.f (k:Nat) (s0_0:Int) (s0_1:Int) (s0_2:Int) (s0_3:List Int):Option ((List (List Int))×Int×Int×Int):=if 0≤s0_1 then (if (s0_1:Int).toNat≤11728124029610 then ((some (List.replicate (s0_1:Int).toNat []:List (List Int))).bind fun y174=>(impl_periods_table.l0 k y174 (y174.length:Int) 0 s0_0 s0_1 s0_2 s0_3)) else (none)) else (none)
theorem impl_periods_table.mono_l:∀k,(∀y0 y1 y2 y3 y4 y5 y6,LeO (impl_periods_table.l0 k y0 y1 y2 y3 y4 y5 y6) (impl_periods_table.l0 (k+1) y0 y1 y2 y3 y4 y5 y6))∧(∀y0 y1 y2 y3 y4 y5,LeO (impl_periods_table.l1 k y0 y1 y2 y3 y4 y5) (impl_periods_table.l1 (k+1) y0 y1 y2 y3 y4 y5))
  |0=>⟨fun _ _ _ _ _ _ _ r h=>by simp [impl_periods_table.l0] at h,fun _ _ _ _ _ _ r h=>by simp [impl_periods_table.l1] at h⟩
  |k+1=>by
    obtain⟨ih0,ih1⟩:=impl_periods_table.mono_l k;refine⟨?_,?_⟩
    · intro y0 y1 y2 y3 y4 y5 y6
      unfold impl_periods_table.l0;repeat' first
      |(with_reducible exact ih0 _ _ _ _ _ _ _)
      |(with_reducible exact ih1 _ _ _ _ _ _)
      |(with_reducible exact LeO.refl _)
      |(with_reducible exact LeO.none _)
      |(with_reducible refine LeO.ite ?_ ?_)
      |(with_reducible refine LeO.bind ?_ (fun _=>?_))
      |exact ih0 _ _ _ _ _ _ _
      |exact ih1 _ _ _ _ _ _
      |exact LeO.none _
      |refine LeO.ite ?_ ?_
      |refine LeO.bind ?_ (fun _=>?_)
    · intro y0 y1 y2 y3 y4 y5
      unfold impl_periods_table.l1;repeat' first
      |(with_reducible exact ih0 _ _ _ _ _ _ _)
      |(with_reducible exact ih1 _ _ _ _ _ _)
      |(with_reducible exact LeO.refl _)
      |(with_reducible exact LeO.none _)
      |(with_reducible refine LeO.ite ?_ ?_)
      |(with_reducible refine LeO.bind ?_ (fun _=>?_))
      |exact ih0 _ _ _ _ _ _ _
      |exact ih1 _ _ _ _ _ _
      |exact LeO.none _
      |refine LeO.ite ?_ ?_
      |refine LeO.bind ?_ (fun _=>?_)
theorem impl_periods_table.mono:∀a0 a1 a2 a3 k,LeO (impl_periods_table.f k a0 a1 a2 a3) (impl_periods_table.f (k+1) a0 a1 a2 a3):=by
  intro a0 a1 a2 a3 k;obtain⟨ih0,ih1⟩:=impl_periods_table.mono_l k;unfold impl_periods_table.f;repeat' first
      |(with_reducible exact ih0 _ _ _ _ _ _ _)
      |(with_reducible exact ih1 _ _ _ _ _ _)
      |(with_reducible exact LeO.refl _)
      |(with_reducible exact LeO.none _)
      |(with_reducible refine LeO.ite ?_ ?_)
      |(with_reducible refine LeO.bind ?_ (fun _=>?_))
      |exact ih0 _ _ _ _ _ _ _
      |exact ih1 _ _ _ _ _ _
      |exact LeO.none _
      |refine LeO.ite ?_ ?_
      |refine LeO.bind ?_ (fun _=>?_)
/-- KeepBut, and the state's own block stays as well. -/
structure HKeep (w w':World) (g:Nat) (row:Option Nat):Prop where
  k:KeepBut w w' g row
  b:g<w.heap.size→some g≠row→w'.heap[g]? =w.heap[g]?
theorem HKeep.refl (w:World) (g:Nat) (row:Option Nat):HKeep w w g row:=⟨KeepBut.refl w g row,fun _ _=>rfl⟩
theorem HKeep.of_grown {w w1:World} {row:Option Nat} (h:w.grownBy w1 row) (g:Nat):HKeep w w1 g row:=⟨KeepBut.of_grown h g,fun hi hr=>h.block g hi hr⟩
theorem HKeep.of_below {w w1:World} (h:Below w.heap.size w w1) (g:Nat) (row:Option Nat):HKeep w w1 g row:=⟨KeepBut.of_below h g row,fun hi _=>h.block g hi⟩
theorem HKeep.trans {w w1 w2:World} {g:Nat} {row row1:Option Nat} (h:HKeep w w1 g row) (k:HKeep w1 w2 g row1) (hr:row1=row∨∃b,row1=some b∧w.heap.size≤b):HKeep w w2 g row:=
  ⟨h.k.trans k.k hr,fun hi hne=>by
    have hi1:g<w1.heap.size:=Nat.lt_of_lt_of_le hi h.k.1;refine(k.b hi1 ?_).trans (h.b hi hne)
    rcases hr with rfl|⟨b,rfl,hb⟩
    · exact hne
    · intro e
      have:=Option.some.inj e
      omega⟩
theorem hka_drewN {w W:World} {g:Nat} {row:Option Nat} (h:HKeep w W g row) (m:Nat):HKeep w (W.drewN m) g row:=⟨keep_drewN h.k m,h.b⟩
theorem hka_drew {w W:World} {g:Nat} {row:Option Nat} (h:HKeep w W g row):HKeep w W.drew g row:=⟨keep_drew h.k,h.b⟩
theorem hka_alloc {w W:World} {g:Nat} (h:HKeep w W g none) (o:Obj):HKeep w (W.alloc o) g none:=h.trans (HKeep.of_grown (World.grownBy_alloc W o none) g) (.inl rfl)
theorem hka_size {w W:World} {g:Nat} {row:Option Nat} (h:HKeep w W g row):w.heap.size≤W.heap.size:=h.k.1
theorem hka_cell {w W:World} {g:Nat} (h:HKeep w W g none) {a:Addr} {v:Value} (hc:w.cell? a=some v) (hne:a.block≠g):W.cell? a=some v:=keep_cell h.k hc hne
set_option maxHeartbeats 8000000 in
set_option maxRecDepth 100000 in
theorem impl_periods_table.calls (k:Nat) (g:Nat) (s0_0:Int) (s0_1:Int) (s0_2:Int) (s0_3:List Int) (r1:List (List Int)) (r2:Int) (r3:Int) (r4:Int) (w0 w:World) (hI:IsS97 w0 w g s0_0 s0_1 s0_2 s0_3) (hB:Below w0.heap.size w0 w) (h:impl_periods_table.f k s0_0 s0_1 s0_2 s0_3=some (r1,r2,r3,r4)):
    Calls Try.prog 92 #[.pointer (some ⟨g,0,none⟩)] w fun e w'=>∃v0_:Value,e=.returned (v0_)∧Kd.S (Kd.slice 2 (Kd.int .i64)) 22 w' w.heap.size (fun _=>True) v0_ r1∧IsS97 w0 w' g r2 r3 r4 s0_3∧Below w0.heap.size w0 w'∧HKeep w w' g none:=by
  have HI0:=qAm hI;have HK:=qAm (HKeep.refl w g none);have HL:=qAm hB.size;clear hI;have HW0:=qAm hB.size;have HB:=qAm hB;clear hB;have H:(if 0≤s0_1 then (if (s0_1:Int).toNat≤11728124029610 then ((some (List.replicate (s0_1:Int).toNat []:List (List Int))).bind fun y174=>(impl_periods_table.l0 k y174 (y174.length:Int) 0 s0_0 s0_1 s0_2 s0_3)) else (none)) else (none))=some (r1,r2,r3,r4):=h;clear h
  by_cases c2:0≤s0_1
  · rw [if_pos c2] at H
    have c2b0:=eq_true c2;have c2b1:decide (0≤s0_1)=true:=decide_eq_true c2;clear c2
    by_cases c3:(s0_1:Int).toNat≤11728124029610
    · rw [if_pos c3] at H
      have c3b0:=eq_true c3;have c3b1:decide ((s0_1:Int).toNat≤11728124029610)=true:=decide_eq_true c3;clear c3;obtain⟨y174,hy174⟩:∃y_:List (List Int),y_=(List.replicate (s0_1:Int).toNat []):=⟨_,rfl⟩
      replace H:(impl_periods_table.l0 k y174 (y174.length:Int) 0 s0_0 s0_1 s0_2 s0_3)=some (r1,r2,r3,r4):=by first|(rw [hy174];with_reducible exact H)|(have H2_:=(Option.bind_some _ _).symm.trans H;rw [hy174];with_reducible exact H2_)|(have H2_:=(Option.bind_some _ _).symm.trans H;with_reducible exact H2_)|with_reducible exact H|(rw [hy174];exact H)|exact H
      have Ny174:=qAm hy174;clear hy174;have H':=qAm H;clear H;obtain⟨ASz4_3,cSz4_3,HGz4,hgz4,HSz4_3⟩:=HI0.1;have hcz4_0:=cellS97_0 HGz4;have hcz4_1:=cellS97_1 HGz4;have hcz4_2:=cellS97_2 HGz4;have hcz4_3:=cellS97_3 HGz4;have hfz4_0:=blk_frozen HGz4 0;have hfz4_1:=blk_frozen HGz4 1;have hfz4_2:=blk_frozen HGz4 2;clear HGz4 hgz4;go_enter Try.func92,Try.ntmps92;go_wp2_with (first|((with_reducible refine gate_dst (N:=10) rfl ?_);refine Kd.S_make (Kd.slice 2 (Kd.int .i64)) _ 22 rfl (N:=10) rfl 57 _ _ rfl s0_1 rfl rfl Try.underlying57 (.slice none 0 0) 24 info22 rfl (by decide) (by omega) [] (ok:=fun _=>True) (okp:=fun _=>True) ⟨_,rfl,Kd.R_nil _ _ _ _ _⟩ (fun _ hk=>hk) trivial (of_decide_eq_true qB56) (Nat.le_trans (Nat.mul_le_mul_right _ (of_decide_eq_true qB56:s0_1.toNat≤11728124029610)) (by omega)) (Below.refl _ _) (Nat.le_refl _) ?_;intro v175 w5 ho6 hb hg_ hnew_;clear hg_ hnew_;(first|rw [← Ny174.1] at ho6|(simp only [Int.reduceToNat] at ho6;rw [← Ny174.1] at ho6));have n0_:=qAm (Kd.S_lower ho6 (hka_size (w:=w) (g:=g) (row:=none) qB26));have n1_:=qAm (IsS97.below qB9 hb);have n2_:=qAm (HKeep.trans qB26 (HKeep.of_below hb g none) (.inl rfl));have n3_:=qAm (below_step qB12 hb);clear HI0;clear HK;clear HB;have HO176:=n0_;have HI0:=n1_;have HK:=n2_;have HB:=n3_;clear n0_ n1_ n2_ n3_;clear hb ho6;obtain⟨Ao7,co7,eo7⟩:=Kd.S_slice HO176.1;subst eo7));try simp only [Act.put,qSa,qSc,qSb]
      go_loopg [13] k (fun kq v13 w'=>∃(x3_1:List (List Int)) (x13_1:Int),v13=.int .i64 x13_1∧Aside0 (impl_periods_table.l0 kq x3_1 (y174.length:Int) x13_1 s0_0 s0_1 s0_2 s0_3=some (r1,r2,r3,r4))∧Aside0 (kq≤k)∧Aside0 (Kd.S (Kd.slice 2 (Kd.int .i64)) 22 w' w.heap.size (fun _=>True) (.slice Ao7 y174.length co7) x3_1)∧Aside0 (IsS97 w0 w' g s0_0 s0_1 s0_2 s0_3)∧Aside0 (HKeep w w' g none)∧Aside0 (Below w0.heap.size w0 w'))
      case atStart=>exact⟨(y174),(0),qB57,H',⟨Nat.le_refl _⟩,⟨by (with_reducible repeat(first|apply Kd.S_alloc|apply Kd.S_drewN|apply Kd.S_drew));exact HO176.1⟩,⟨by repeat(first|(with_reducible first|exact HI0.1|apply IsS97.alloc|apply IsS97.drewN|apply IsS97.drew|apply IsS97.set_0|apply IsS97.set_1|apply IsS97.set_2)|exact HI0.1)⟩,⟨by repeat(first|(with_reducible first|exact HK.1|apply hka_drewN|apply hka_drew|apply hka_alloc)|exact HK.1)⟩,⟨by repeat(first|(with_reducible first|exact HB.1|apply below_alloc|apply pw_below_drewN|apply below_drew1|refine below_set ?_ (IsS97.ge HI0.1))|exact HB.1)⟩⟩
      case round=>
        clear H';try clear c2
        try clear c2b0
        try clear c2b1
        try clear p2
        try clear c3
        try clear c3b0
        try clear c3b1
        try clear hcz4_0
        try clear hcz4_1
        try clear hcz4_2
        try clear hcz4_3
        try clear hfz4_0
        try clear hfz4_1
        try clear hfz4_2
        obtain⟨x3_1,x13_1,rfl,HA,HK1,HO_3,HI0,HK,HB⟩:=hrel;have hl3_1:=(Kd.S_reads' HO_3.1).1;rw [hl3_1] at HO_3
        (try simp only [hl3_1])
        cases gk with
        |zero=>exact absurd HA.1 (by simp [impl_periods_table.l0])
        |succ k1=>
          have H:=HA.1;clear HA;simp only [impl_periods_table.l0] at H
          by_cases c8:x13_1<(y174.length:Int)
          · rw [if_pos c8] at H
            have c8b0:decide (x13_1<(y174.length:Int))=true:=decide_eq_true c8;clear c8
            by_cases c9:0≤s0_1
            · rw [if_pos c9] at H
              have c9b0:=eq_true c9;have c9b1:decide (0≤s0_1)=true:=decide_eq_true c9;clear c9
              by_cases c10:(s0_1:Int).toNat≤35184372088832
              · rw [if_pos c10] at H
                have c10b0:=eq_true c10;have c10b1:decide ((s0_1:Int).toNat≤35184372088832)=true:=decide_eq_true c10;clear c10;obtain⟨y177,hy177⟩:∃y_:List Int,y_=(List.replicate (s0_1:Int).toNat 0):=⟨_,rfl⟩
                replace H:(if 0≤x13_1 then (if x13_1<(x3_1.length:Int) then (impl_periods_table.l0 k1 (x3_1.set (x13_1:Int).toNat y177) (y174.length:Int) (wrap64 (x13_1+1)) s0_0 s0_1 s0_2 s0_3) else (none)) else (none))=some (r1,r2,r3,r4):=by first|(rw [hy177];with_reducible exact H)|(have H2_:=(Option.bind_some _ _).symm.trans H;rw [hy177];with_reducible exact H2_)|(have H2_:=(Option.bind_some _ _).symm.trans H;with_reducible exact H2_)|with_reducible exact H|(rw [hy177];exact H)|exact H
                have Ny177:=qAm hy177;clear hy177
                by_cases c11:0≤x13_1
                · rw [if_pos c11] at H
                  have c11b0:decide (0≤x13_1)=true:=decide_eq_true c11;clear c11
                  by_cases c12:x13_1<(x3_1.length:Int)
                  · rw [if_pos c12] at H
                    have c12b0:decide (x13_1<(x3_1.length:Int))=true:=decide_eq_true c12;clear c12;obtain⟨y180,hy180⟩:∃y_:List (List Int),y_=(x3_1.set (x13_1:Int).toNat y177):=⟨_,rfl⟩
                    replace H:(impl_periods_table.l0 k1 y180 (y174.length:Int) (wrap64 (x13_1+1)) s0_0 s0_1 s0_2 s0_3)=some (r1,r2,r3,r4):=by first|(rw [hy180];with_reducible exact H)|(have H2_:=(Option.bind_some _ _).symm.trans H;rw [hy180];with_reducible exact H2_)|(have H2_:=(Option.bind_some _ _).symm.trans H;with_reducible exact H2_)|with_reducible exact H|(rw [hy180];exact H)|exact H
                    have Ny180:=qAm hy180;clear hy180;have H':=qAm H;clear H;obtain⟨ASz14_3,cSz14_3,HGz14,hgz14,HSz14_3⟩:=HI0.1;have hcz14_0:=cellS97_0 HGz14;have hcz14_1:=cellS97_1 HGz14;have hcz14_2:=cellS97_2 HGz14;have hcz14_3:=cellS97_3 HGz14;have hfz14_0:=blk_frozen HGz14 0;have hfz14_1:=blk_frozen HGz14 1;have hfz14_2:=blk_frozen HGz14 2;clear HGz14 hgz14;go_wp2_with (first|((with_reducible refine gate_dst (N:=22) rfl ?_);refine Kd.R_make (Kd.int .i64) _ 2 rfl (N:=22) rfl 22 _ _ rfl s0_1 rfl rfl Try.underlying22 (.int .i64 0) 8 info2 rfl (by decide) (by omega) 0 (ok:=fun _=>True) (okp:=fun _=>True) rfl (fun _ hk=>hk) trivial (of_decide_eq_true qB56) (Nat.le_trans (Nat.mul_le_mul_right _ (of_decide_eq_true qB56:s0_1.toNat≤35184372088832)) (by omega)) (Below.refl _ _) (Nat.le_refl _) ?_;intro v178 w15 ho16 hb hg_ hnew_;clear hg_ hnew_;(first|rw [← Ny177.1] at ho16|(simp only [Int.reduceToNat] at ho16;rw [← Ny177.1] at ho16));have n0_:=qAm (Kd.S_elder' (by (with_reducible repeat(first|apply Kd.S_alloc|apply Kd.S_drewN|apply Kd.S_drew));exact HO_3.1) (Kd.R_base ho16) hb);have n1_:=qAm (Kd.R_lower ho16 (hka_size (w:=w) (g:=g) (row:=none) qB26));have n2_:=qAm (IsS97.below qB9 hb);have n3_:=qAm (HKeep.trans qB26 (HKeep.of_below hb g none) (.inl rfl));have n4_:=qAm (below_step qB12 hb);clear HO_3;clear HI0;clear HK;clear HB;have HO_3:=n0_;have HO179:=n1_;have HI0:=n2_;have HK:=n3_;have HB:=n4_;clear n0_ n1_ n2_ n3_ n4_;clear hb ho16;have p13:0≤(x13_1:Int):=of_decide_eq_true qB56;have q13:(x13_1:Int)<((x3_1.length:Int):Int):=of_decide_eq_true qB56;obtain⟨go13,co13,eo13,gb13,gl13,cl13,HG13⟩:=Kd.S_form HO_3.1 (by omega);(first|cases eo13|(injection eo13 with ea_ en_ ec_;(first|subst ea_|(injection ea_ with ea_;subst ea_));subst ec_;clear en_));have GB13:=qAm gb13;have GG13:=qAm HG13;clear gb13 gl13 HG13;obtain⟨_,ce13,hcl13,hM13,hcc13,hfr13,_,_⟩:=Kd.S_elem HO_3.1 [] (x13_1:Int) p13 q13;obtain⟨ve13_0,rfl,ge13_0⟩:=hM13;have hx13_0:=hcc13 0 _ rfl;have hf13_0:=hfr13 0;(try simp only [show((Kd.slice 2 (Kd.int .i64))).sz=1 from rfl,Nat.mul_one,Nat.add_zero] at hx13_0);(try simp only [show((Kd.slice 2 (Kd.int .i64))).sz=1 from rfl,Nat.mul_one,Nat.add_zero] at hf13_0);clear hcl13 hcc13 hfr13;(try clear hM13);replace p13:=eq_true p13;replace q13:=eq_true q13;have n_:=qAm (Kd.S_mono (ok':=(fun k_=>some k_≠(v178:Value).ownBlock)) HO_3.1 (fun k_ hk=>hk.2));clear HO_3;have HO_3:=n_;clear n_;have HX17:=qAm (show Kd.S (Kd.slice 2 (Kd.int .i64)) 22 w15 w.heap.size (fun k_=>((fun _=>True)) k_∧¬((fun k_=>some k_=(v178:Value).ownBlock)) k_) (.slice (some ⟨go13,0,none⟩) x3_1.length co7) x3_1 from (by (with_reducible repeat(first|apply Kd.S_alloc|apply Kd.S_drewN|apply Kd.S_drew));exact Kd.S_mono HO_3.1 (fun k_ hk=>⟨trivial,fun e_=>hk e_⟩)));obtain⟨oki17,ce17,hcl17,hM17,hcc17,hfr17,hoki17,hH17⟩:=Kd.S_elem HX17.1 [] (x13_1:Int) (of_decide_eq_true qB56) (by have h_:(x13_1:Int)<((x3_1.length:Int):Int):=of_decide_eq_true qB56;first|exact h_|(have e_:=(Kd.S_reads' HO_3.1).1;omega)|simpa using h_);obtain⟨ve17_0,rfl,ge17_0⟩:=hM17;have HP17:=Kd.S_seg hH17 (of_decide_eq_true qB56) (by have h_:(x13_1:Int)<((x3_1.length:Int):Int):=of_decide_eq_true qB56;first|exact h_|(have e_:=(Kd.S_reads' HO_3.1).1;omega)|simpa using h_) (seg:=[v178]) (j:=0) (show 1≤1 from by decide) (x':=y177) (Kd.M_row (Kd.R_mono (Kd.R_tight rfl (Kd.R_mono (ok':=fun k_=>((fun _=>True)) k_∧k_≠go13) (Kd.R_apart' (HO179.1) (Kd.S_typed HO_3.1) (by decide)) (fun k_ hk=>⟨trivial,fun e_=>(hk.2) (by rw [e_];rfl)⟩))) (fun _ h_=>Or.inr (h_)))) (fun _ hk=>hk) (fun k_ hk_=>((Kd.R_mono (ok':=fun k_=>((fun _=>True)) k_∧k_≠go13) (Kd.R_apart' (HO179.1) (Kd.S_typed HO_3.1) (by decide)) (fun k_ hk=>⟨trivial,fun e_=>(hk.2) (by rw [e_];rfl)⟩))).1 k_ hk_.symm);have hx17_0:=hcc17 0 _ rfl;(try simp only [show((Kd.slice 2 (Kd.int .i64))).sz=1 from rfl,Nat.mul_one,Nat.add_zero] at hx17_0);have hf17_0:=hfr17 0;(try simp only [show((Kd.slice 2 (Kd.int .i64))).sz=1 from rfl,Nat.mul_one,Nat.add_zero] at hf17_0);clear hcl17 hcc17 hfr17 hoki17 hH17;(try clear hM17);(try simp only [show((Kd.slice 2 (Kd.int .i64))).sz=1 from rfl,Nat.mul_one,Nat.add_zero] at HP17))|((with_reducible refine gate_store (t:=22) (p:=23) rfl ?_);refine store_event (t:=22) (p:=23) (v:=?vo_w18) (w1:=(w15.setCell ⟨go13,(x13_1:Int).toNat,none⟩ (v178))) ?hg ?ho ?hn ?hr ?_;(case ho=>rfl);(case hg=>rfl);(case hn=>rfl);(case hr=>first|(obtain⟨A_,c_,e_⟩:=Kd.R_slice HO179.1;subst e_;first|(go_simp;done)|(go_simp;rfl))|(go_simp;done)|(go_simp;rfl));intro w18 hw;have hg:w15.grownBy w18 (some go13):=(by rw [hw];exact HP17.2);have hp_:Kd.S (Kd.slice 2 (Kd.int .i64)) 22 w18 w.heap.size (fun _=>True) (.slice (some ⟨go13,0,none⟩) x3_1.length co7) y180:=(by rw [hw,Ny180.1];exact HP17.1);clear HP17;have n0_:=qAm (hp_);have n1_:=qAm (IsS97.grown qB9 hg (IsS97.own_neS HI0.1 HO_3.1 (by decide)));have n2_:=qAm ((by rw [hw];exact below_set (HB.1) (Nat.le_trans HL.1 GB13.1):Below w0.heap.size w0 w18));have n3_:=qAm (HKeep.trans qB26 (HKeep.of_grown hg g) (Kd.S_base2 HO_3.1));clear HO_3;clear HI0;clear HB;clear HK;clear HO179;have HO_3:=n0_;have HI0:=n1_;have HB:=n2_;have HK:=n3_;clear n0_ n1_ n2_ n3_;clear hg hw hp_))
                    (try simp only [← hl3_1])
                    (first|go_roundg k1|((try simp only [add_plain] at *);go_roundg k1))
                    case measure=>have:=HK1.1;omega
                    case rel=>exact⟨(y180),(wrap64 (x13_1+1)),qB57,H',⟨by have:=HK1.1;omega⟩,⟨by (try simp only [hl3_1]);(with_reducible repeat(first|apply Kd.S_alloc|apply Kd.S_drewN|apply Kd.S_drew));exact HO_3.1⟩,⟨by repeat(first|(with_reducible first|exact HI0.1|apply IsS97.alloc|apply IsS97.drewN|apply IsS97.drew|apply IsS97.set_0|apply IsS97.set_1|apply IsS97.set_2)|exact HI0.1)⟩,⟨by repeat(first|(with_reducible first|exact HK.1|apply hka_drewN|apply hka_drew|apply hka_alloc)|exact HK.1)⟩,⟨by repeat(first|(with_reducible first|exact HB.1|apply below_alloc|apply pw_below_drewN|apply below_drew1|refine below_set ?_ (IsS97.ge HI0.1))|exact HB.1)⟩⟩
                  · rw [if_neg c12] at H
                    exact absurd H (by simp)
                · rw [if_neg c11] at H
                  exact absurd H (by simp)
              · rw [if_neg c10] at H
                exact absurd H (by simp)
            · rw [if_neg c9] at H
              exact absurd H (by simp)
          · rw [if_neg c8] at H
            have c8b0:decide (x13_1<(y174.length:Int))=false:=decide_eq_false c8;have c8b0_0:=c8b0
            (try rw [hl3_1] at c8b0_0)
            clear c8;have H':=qAm H;clear H;go_wp2;try simp only [Act.put,qSa,qSc,qSb]
            go_loopg [5] k1 (fun kq v5 w'=>∃(x3_2:List (List Int)) (x5_2:Int),v5=.int .i64 x5_2∧Aside0 (impl_periods_table.l1 kq x3_2 x5_2 s0_0 s0_1 s0_2 s0_3=some (r1,r2,r3,r4))∧Aside0 (kq≤k1)∧Aside0 (Kd.S (Kd.slice 2 (Kd.int .i64)) 22 w' w.heap.size (fun _=>True) (.slice Ao7 x3_1.length co7) x3_2)∧Aside0 (IsS97 w0 w' g s0_0 s0_1 s0_2 s0_3)∧Aside0 (HKeep w w' g none)∧Aside0 (Below w0.heap.size w0 w'))
            case atStart=>exact⟨(x3_1),(1),qB57,H',⟨Nat.le_refl _⟩,⟨by (try simp only [hl3_1]);(with_reducible repeat(first|apply Kd.S_alloc|apply Kd.S_drewN|apply Kd.S_drew));exact HO_3.1⟩,⟨by repeat(first|(with_reducible first|exact HI0.1|apply IsS97.alloc|apply IsS97.drewN|apply IsS97.drew|apply IsS97.set_0|apply IsS97.set_1|apply IsS97.set_2)|exact HI0.1)⟩,⟨by repeat(first|(with_reducible first|exact HK.1|apply hka_drewN|apply hka_drew|apply hka_alloc)|exact HK.1)⟩,⟨by repeat(first|(with_reducible first|exact HB.1|apply below_alloc|apply pw_below_drewN|apply below_drew1|refine below_set ?_ (IsS97.ge HI0.1))|exact HB.1)⟩⟩
            case round=>
              clear H';try clear c1
              try clear p1
              try clear q1
              try clear hx1
              try clear hf1
              try clear c2
              try clear c2b0
              try clear c2b1
              try clear p2
              try clear c3
              try clear c3b0
              try clear c3b1
              try clear p6
              try clear c8
              try clear c8b0
              try clear c9
              try clear c9b0
              try clear c9b1
              try clear c10
              try clear c10b0
              try clear c10b1
              try clear c11
              try clear c11b0
              try clear c12
              try clear c12b0
              try clear c13
              try clear p13
              try clear q13
              try clear hx13
              try clear hf13
              try clear c17
              try clear hx17
              try clear hf17
              try clear hcz14_0
              try clear hcz14_1
              try clear hcz14_2
              try clear hcz14_3
              try clear hcz4_0
              try clear hcz4_1
              try clear hcz4_2
              try clear hcz4_3
              try clear hfz14_0
              try clear hfz14_1
              try clear hfz14_2
              try clear hfz4_0
              try clear hfz4_1
              try clear hfz4_2
              try clear hx13_0
              try clear hx17_0
              try clear p13
              try clear p2
              try clear q13
              obtain⟨x3_2,x5_2,rfl,HA,HK2,HO_3,HI0,HK,HB⟩:=hrel;have hl3_2:=(Kd.S_reads' HO_3.1).1;rw [hl3_2] at HO_3
              (try simp only [hl3_2])
              cases gk with
              |zero=>exact absurd HA.1 (by simp [impl_periods_table.l1])
              |succ k2=>
                have H:=HA.1;clear HA;simp only [impl_periods_table.l1] at H
                by_cases c19:x5_2<(wrap64 (s0_0 - 1))
                · rw [if_pos c19] at H
                  have c19b0:decide (x5_2<(wrap64 (s0_0 - 1)))=true:=decide_eq_true c19;clear c19
                  by_cases c20:0≤x5_2
                  · rw [if_pos c20] at H
                    have c20b0:decide (0≤x5_2)=true:=decide_eq_true c20;clear c20
                    by_cases c21:x5_2<(s0_3.length:Int)
                    · rw [if_pos c21] at H
                      have c21b0:decide (x5_2<(s0_3.length:Int))=true:=decide_eq_true c21;clear c21
                      by_cases c22:0≤(rd s0_3 x5_2)
                      · rw [if_pos c22] at H
                        have c22b0:decide (0≤(rd s0_3 x5_2))=true:=decide_eq_true c22;clear c22
                        by_cases c23:(rd s0_3 x5_2)<(x3_2.length:Int)
                        · rw [if_pos c23] at H
                          have c23b0:decide ((rd s0_3 x5_2)<(x3_2.length:Int))=true:=decide_eq_true c23;clear c23;obtain⟨ji24,hji24⟩:∃j_:Int,(wrap64 (x5_2+1))=j_:=⟨_,rfl⟩
                          replace H:(if 0≤(ji24) then (if (ji24)<(s0_3.length:Int) then (if 0≤(rd s0_3 (ji24)) then (if (rd s0_3 (ji24))<((rd_L2 x3_2 (rd s0_3 x5_2)).length:Int) then (impl_periods_table.l1 k2 (x3_2.set ((rd s0_3 x5_2):Int).toNat ((rd_L2 x3_2 (rd s0_3 x5_2)).set ((rd s0_3 (ji24)):Int).toNat (wrap64 ((rd (rd_L2 x3_2 (rd s0_3 x5_2)) (rd s0_3 (ji24)))+1)))) ji24 s0_0 s0_1 s0_2 s0_3) else (none)) else (none)) else (none)) else (none))=some (r1,r2,r3,r4):=by first|(rw [hji24] at H;exact H)|(simp only [hji24] at H ⊢;exact H)
                          have hji24w:(IntKind.i64.wrap (x5_2+1))=ji24:=(i64_w _).trans hji24
                          by_cases c25:0≤(ji24)
                          · rw [if_pos c25] at H
                            have c25b0:decide (0≤(ji24))=true:=decide_eq_true c25;clear c25
                            by_cases c26:(ji24)<(s0_3.length:Int)
                            · rw [if_pos c26] at H
                              have c26b0:decide ((ji24)<(s0_3.length:Int))=true:=decide_eq_true c26;clear c26
                              by_cases c27:0≤(rd s0_3 (ji24))
                              · rw [if_pos c27] at H
                                have c27b0:decide (0≤(rd s0_3 (ji24)))=true:=decide_eq_true c27;clear c27
                                by_cases c28:(rd s0_3 (ji24))<((rd_L2 x3_2 (rd s0_3 x5_2)).length:Int)
                                · rw [if_pos c28] at H
                                  have c28b0:decide ((rd s0_3 (ji24))<((rd_L2 x3_2 (rd s0_3 x5_2)).length:Int))=true:=decide_eq_true c28;clear c28;obtain⟨y185,hy185⟩:∃y_:List Int,y_=((rd_L2 x3_2 (rd s0_3 x5_2)).set ((rd s0_3 (ji24)):Int).toNat (wrap64 ((rd (rd_L2 x3_2 (rd s0_3 x5_2)) (rd s0_3 (ji24)))+1))):=⟨_,rfl⟩
                                  replace H:(impl_periods_table.l1 k2 (x3_2.set ((rd s0_3 x5_2):Int).toNat y185) ji24 s0_0 s0_1 s0_2 s0_3)=some (r1,r2,r3,r4):=by first|(rw [hy185];with_reducible exact H)|(have H2_:=(Option.bind_some _ _).symm.trans H;rw [hy185];with_reducible exact H2_)|(have H2_:=(Option.bind_some _ _).symm.trans H;with_reducible exact H2_)|with_reducible exact H|(rw [hy185];exact H)|exact H
                                  have Ny185:=qAm hy185;clear hy185;obtain⟨y187,hy187⟩:∃y_:List (List Int),y_=(x3_2.set ((rd s0_3 x5_2):Int).toNat y185):=⟨_,rfl⟩
                                  replace H:(impl_periods_table.l1 k2 y187 ji24 s0_0 s0_1 s0_2 s0_3)=some (r1,r2,r3,r4):=by first|(rw [hy187];with_reducible exact H)|(have H2_:=(Option.bind_some _ _).symm.trans H;rw [hy187];with_reducible exact H2_)|(have H2_:=(Option.bind_some _ _).symm.trans H;with_reducible exact H2_)|with_reducible exact H|(rw [hy187];exact H)|exact H
                                  have Ny187:=qAm hy187;clear hy187;have H':=qAm H;clear H;obtain⟨ASz30_3,cSz30_3,HGz30,hgz30,HSz30_3⟩:=HI0.1;have hcz30_0:=cellS97_0 HGz30;have hcz30_1:=cellS97_1 HGz30;have hcz30_2:=cellS97_2 HGz30;have hcz30_3:=cellS97_3 HGz30;have hfz30_0:=blk_frozen HGz30 0;have hfz30_1:=blk_frozen HGz30 1;have hfz30_2:=blk_frozen HGz30 2;clear HGz30 hgz30;have p181:0≤(x5_2:Int):=of_decide_eq_true qB56;have q181:x5_2<(s0_3.length:Int):=of_decide_eq_true qB56;obtain⟨ad181,e181,hx181_0⟩:=Kd.at_int HSz30_3 x5_2 p181 q181;cases e181
                                  replace hx181_0:=pw_cell_below HB.1 hx181_0;replace p181:=eq_true p181;replace q181:=eq_true q181;have p182:0≤((rd s0_3 x5_2):Int):=of_decide_eq_true qB56;have q182:(rd s0_3 x5_2)<(x3_2.length:Int):=of_decide_eq_true qB56;obtain⟨ad182,A182_0,c182_0,e182,hx182_0,hl182_0,hi182_0⟩:=at_L2 (Kd.S_reads' HO_3.1).2.2 (rd s0_3 x5_2) p182 q182;cases e182
                                  obtain⟨ce182,hce182,hMe182,hcc182⟩:=Kd.S_get HO_3.1 [] (rd s0_3 x5_2) p182 (by first|exact q182|exact of_decide_eq_true qB56|(have e_:=(Kd.S_reads' HO_3.1).1;omega));obtain⟨ve182_0,rfl,ge182_0⟩:=hMe182;have hv182_0:=hcc182 0 _ rfl;rw [Nat.add_zero,show((Kd.slice 2 (Kd.int .i64))).sz=1 from rfl,Nat.mul_one] at hv182_0;replace hv182_0:=Option.some.inj (hv182_0.symm.trans hx182_0);rw [hv182_0] at ge182_0;have HL182_0:=qAm (show Kd.R (Kd.int .i64) 2 _ _ _ _ (rd_L2 x3_2 (rd s0_3 x5_2)) from ge182_0);clear hv182_0 ge182_0;have HX182_0:=qAm hx182_0;clear hcc182 hce182;have HR182_0:=qAm hi182_0;have HC182_0:=qAm hl182_0;clear hi182_0 hl182_0;replace p182:=eq_true p182;replace q182:=eq_true q182;have p183:0≤((ji24):Int):=of_decide_eq_true qB56;have q183:(ji24)<(s0_3.length:Int):=of_decide_eq_true qB56;obtain⟨ad183,e183,hx183_0⟩:=Kd.at_int HSz30_3 (ji24) p183 q183;obtain rfl:ad181=ad183:=(by injection e183)
                                  replace hx183_0:=pw_cell_below HB.1 hx183_0;replace p183:=eq_true p183;replace q183:=eq_true q183;have p184:0≤((rd s0_3 (ji24)):Int):=of_decide_eq_true qB56;have q184:(rd s0_3 (ji24))<((rd_L2 x3_2 (rd s0_3 x5_2)).length:Int):=of_decide_eq_true qB56;obtain⟨ad184,e184,hx184_0⟩:=Kd.at_int (by repeat(first|(with_reducible exact HR182_0.1)|(with_reducible refine Kd.C_alloc ?_ _)|(with_reducible refine Kd.C_drewN ?_ _)|(with_reducible refine Kd.C_drew ?_)|exact HR182_0.1)) (rd s0_3 (ji24)) p184 q184;cases e184
                                  replace p184:=eq_true p184;replace q184:=eq_true q184;have p29:0≤((rd s0_3 (ji24)):Int):=of_decide_eq_true qB56;have q29:((rd s0_3 (ji24)):Int)<(((rd_L2 x3_2 (rd s0_3 x5_2)).length:Int):Int):=of_decide_eq_true qB56;obtain⟨go29,co29,eo29,gb29,gl29,cl29,HG29⟩:=Kd.R_form HL182_0.1 (by omega)
                                  (first|cases eo29|(injection eo29 with ea_ en_ ec_;(first|subst ea_|(injection ea_ with ea_;subst ea_));subst ec_;clear en_))
                                  have GB29:=qAm gb29;have GG29:=qAm HG29;clear gb29 gl29 HG29
                                  (first|simp only [add_plain] at hx184_0|skip)
                                  obtain⟨hx29_0,hf29_0⟩:=Kd.R_celln 0 HL182_0.1 ((rd s0_3 (ji24)):Int) p29 q29;replace p29:=eq_true p29;replace q29:=eq_true q29;have hq31:((rd s0_3 x5_2):Int)<(x3_2.length:Int):=(by have h_:((rd s0_3 x5_2):Int)<((x3_2.length:Int):Int):=of_decide_eq_true qB56;first|exact h_|(have e_:=(Kd.S_reads' HO_3.1).1;omega)|simpa only [List.length_set,List.length_set] using h_)
                                  obtain⟨oki31,ce31,hcl31,hM31,hcc31,hok31,hbk31⟩:=Kd.S_borrow HO_3.1 [] ((rd s0_3 x5_2):Int) (of_decide_eq_true qB56) hq31;obtain⟨ve31_0,rfl,ge31_0⟩:=hM31;have hv31:=hcc31 0 _ rfl;rw [Nat.add_zero,show((Kd.slice 2 (Kd.int .i64))).sz=1 from rfl,Nat.mul_one] at hv31;replace hv31:=Option.some.inj (hv31.symm.trans HX182_0.1);subst hv31;clear hcc31 hcl31;replace ge31_0:=(show Kd.R (Kd.int .i64) 2 _ _ _ _ (rd_L2 x3_2 (rd s0_3 x5_2)) from ge31_0)
                                  have HP31:=Kd.R_putg ge31_0 ((rd s0_3 (ji24)):Int) (wrap64 ((rd (rd_L2 x3_2 (rd s0_3 x5_2)) (rd s0_3 (ji24)))+1));go_wp2_with fail;go_region;obtain⟨w32,hw⟩:∃w_:World,w_=(wr.setCell ⟨go29,((rd s0_3 (ji24)):Int).toNat,none⟩ (.int .i64 (wrap64 ((rd (rd_L2 x3_2 (rd s0_3 x5_2)) (rd s0_3 (ji24)))+1)))):=⟨_,rfl⟩
                                  rw [← hw];have hg:wr.grownBy w32 (some go29):=(by rw [hw];exact HP31.2)
                                  have hz_:Kd.R (Kd.int .i64) 2 w32 w.heap.size oki31 (.slice (some ⟨go29,0,none⟩) (rd_L2 x3_2 (rd s0_3 x5_2)).length c182_0) y185:=(by rw [hw,Ny185.1];exact HP31.1)
                                  have hp_:Kd.S (Kd.slice 2 (Kd.int .i64)) 22 w32 w.heap.size (fun _=>True) (.slice (some ad182) x3_2.length co7) y187:=(by rw [Ny187.1];exact hbk31 hg (fun k_ e_=>by injection e_ with e_;subst e_;exact ge31_0.1 _ rfl) (Kd.M_row hz_))
                                  have hm_:=Kd.R_mono hz_ hok31;clear HP31 hbk31;have n0_:=qAm (hp_);have n1_:=qAm (IsS97.grown qB9 hg (IsS97.own_ne HI0.1 HL182_0.1 (by decide)));have n2_:=qAm ((by rw [hw];exact below_set (HB.1) (Nat.le_trans HL.1 GB29.1):Below w0.heap.size w0 w32));have n3_:=qAm (HKeep.trans qB26 (HKeep.of_grown hg g) (Kd.R_base2 HL182_0.1));have n4_:=qAm (hm_);have n5_:=qAm ((Kd.R_reads' hm_).2.1);clear HO_3 HI0 HB HK HL182_0;have HO_3:=n0_;have HI0:=n1_;have HB:=n2_;have HK:=n3_;have HL188:=n4_;have HC186:=n5_;clear n0_ n1_ n2_ n3_ n4_ n5_ hg hw hp_ hz_ hm_ hok31;go_wp2
                                  (try simp only [← hl3_2])
                                  (first|go_roundg k2|((try simp only [add_plain] at *);go_roundg k2))
                                  case measure=>have:=HK1.1;have:=HK2.1;omega
                                  case rel=>exact⟨(y187),(ji24),(by first|rfl|(simp;done)|(simp only [← hji24] <;> (first|rfl|simp))|(simp [*];done)),H',⟨by have:=HK1.1;have:=HK2.1;omega⟩,⟨by (try simp only [hl3_1]);(try simp only [hl3_2]);(with_reducible repeat(first|apply Kd.S_alloc|apply Kd.S_drewN|apply Kd.S_drew));exact HO_3.1⟩,⟨by repeat(first|(with_reducible first|exact HI0.1|apply IsS97.alloc|apply IsS97.drewN|apply IsS97.drew|apply IsS97.set_0|apply IsS97.set_1|apply IsS97.set_2)|exact HI0.1)⟩,⟨by repeat(first|(with_reducible first|exact HK.1|apply hka_drewN|apply hka_drew|apply hka_alloc)|exact HK.1)⟩,⟨by repeat(first|(with_reducible first|exact HB.1|apply below_alloc|apply pw_below_drewN|apply below_drew1|refine below_set ?_ (IsS97.ge HI0.1))|exact HB.1)⟩⟩
                                · rw [if_neg c28] at H
                                  exact absurd H (by simp)
                              · rw [if_neg c27] at H
                                exact absurd H (by simp)
                            · rw [if_neg c26] at H
                              exact absurd H (by simp)
                          · rw [if_neg c25] at H
                            exact absurd H (by simp)
                        · rw [if_neg c23] at H
                          exact absurd H (by simp)
                      · rw [if_neg c22] at H
                        exact absurd H (by simp)
                    · rw [if_neg c21] at H
                      exact absurd H (by simp)
                  · rw [if_neg c20] at H
                    exact absurd H (by simp)
                · rw [if_neg c19] at H
                  have c19b0:decide (x5_2<(wrap64 (s0_0 - 1)))=false:=decide_eq_false c19;clear c19;simp only [Option.some.injEq,Prod.mk.injEq] at H;obtain⟨rfl,rfl,rfl,rfl⟩:=H;obtain⟨ASz33_3,cSz33_3,HGz33,hgz33,HSz33_3⟩:=HI0.1;have hcz33_0:=cellS97_0 HGz33;have hcz33_1:=cellS97_1 HGz33;have hcz33_2:=cellS97_2 HGz33;have hcz33_3:=cellS97_3 HGz33;have hfz33_0:=blk_frozen HGz33 0;have hfz33_1:=blk_frozen HGz33 1;have hfz33_2:=blk_frozen HGz33 2;clear HGz33 hgz33;go_wp2;go_ret;exact⟨_,by first|rfl|(simp [errW_none,errW_some] <;> rfl)|(simp [*,errW_none,errW_some] <;> rfl),by (with_reducible repeat(first|apply Kd.S_alloc|apply Kd.S_drewN|apply Kd.S_drew));exact HO_3.1,by repeat(first|(with_reducible first|exact HI0.1|apply IsS97.alloc|apply IsS97.drewN|apply IsS97.drew|apply IsS97.set_0|apply IsS97.set_1|apply IsS97.set_2)|exact HI0.1),by repeat(first|(with_reducible first|exact HB.1|apply below_alloc|apply pw_below_drewN|apply below_drew1|refine below_set ?_ (IsS97.ge HI0.1))|exact HB.1),by repeat(first|(with_reducible first|exact HK.1|apply hka_drewN|apply hka_drew|apply hka_alloc)|exact HK.1)⟩
    · rw [if_neg c3] at H
      exact absurd H (by simp)
  · rw [if_neg c2] at H
    exact absurd H (by simp)

/-! ### impl_CyclotomicTable: function 34 -/
def impl_CyclotomicTable.f (k:Nat) (a0:Int) (a1:Int):Option ((List (List Int))×Int):=(impl_periodsOf.f k a0 a1).bind fun b=>(if b.2.2.2.2=true then ((impl_periods_table.f k b.1 b.2.1 b.2.2.1 b.2.2.2.1).bind fun d=>(some (d.1,0))) else (some ([],2)))
theorem impl_CyclotomicTable.mono:∀a0 a1 k,LeO (impl_CyclotomicTable.f k a0 a1) (impl_CyclotomicTable.f (k+1) a0 a1):=by
  intro a0 a1 k;unfold impl_CyclotomicTable.f;repeat' first
      |(with_reducible exact impl_periodsOf.mono _ _ _)
      |(with_reducible exact LeO.refl _)
      |(with_reducible exact LeO.none _)
      |(with_reducible refine LeO.ite ?_ ?_)
      |(with_reducible refine LeO.bind ?_ (fun _=>?_))
      |exact impl_periodsOf.mono _ _ _
      |exact impl_periods_table.mono _ _ _ _ _
      |exact LeO.none _
      |refine LeO.ite ?_ ?_
      |refine LeO.bind ?_ (fun _=>?_)
set_option maxHeartbeats 8000000 in
set_option maxRecDepth 100000 in
-- HAND
theorem impl_CyclotomicTable.calls (k:Nat) (a0:Int) (a1:Int) (r1:List (List Int)) (r2:Int) (w:World) (h:impl_CyclotomicTable.f k a0 a1=some (r1,r2)):
    Calls Try.prog 34 #[.int .i64 a0,.int .i64 a1] w fun e w'=>∃v0_:Value,e=.returned (.tuple #[v0_,.int .i64 r2])∧Kd.S (Kd.slice 2 (Kd.int .i64)) 22 w' w.heap.size (fun _=>True) v0_ r1∧Below w.heap.size w w':=by
  have hu97:=Try.underlying97;have HB:=qAm (Below.refl w.heap.size w);unfold impl_CyclotomicTable.f at h;obtain⟨⟨t189,t190,t191,t192,ok_⟩,A30,H⟩:=qOb h;clear h;have A3:=qAm A30;clear A30;cases ok_ with
  |true=>
    replace H:=qOb ((if_pos rfl).symm.trans H);obtain⟨⟨d1,d2,d3,d4⟩,D0,H⟩:=H;have D:=qAm D0;clear D0;simp only [Option.some.injEq,Prod.mk.injEq] at H;obtain⟨rfl,rfl⟩:=H;go_enter Try.func34,Try.ntmps34;go_wp2_with (first|((with_reducible refine gate_callee (f:=81) rfl ?_);refine goesL_ (some 11) rfl rfl Try.func81 (by kernel_rfl) rfl #[.int .i64 a0,.int .i64 a1] rfl qB19 ?_;(with_reducible refine(impl_periodsOf.calls k a0 a1 t189 t190 t191 t192 true _ A3.1).mono ?_);rintro e w5 ⟨v193,rfl,ho0,hb⟩;refine⟨_,rfl,?_⟩;have HCc:=qAm ho0;have HBc:=qAm (Below.refl w5.heap.size w5);have n0_:=qAm (Kd.R_lower ho0 (below_size qB23));have n1_:=qAm (below_step qB23 hb);clear HB;have HO194:=n0_;have HB:=n1_;clear n0_ n1_;(try clear hb);(try clear hb2);(try clear hk);(try clear hi);(try clear ho0);have HBX:=qAm HB.1)|((with_reducible refine gate_dst (N:=6) rfl ?_);refine box_event ?hg (N:=6) ?hd (cs:=#[.int .i64 0,.int .i64 0,.int .i64 0,.slice none 0 0]) (t:=97) ?hr ?_;(case hd=>rfl);(case hg=>rfl);(case hr=>first|(go_simp;done)|(go_simp;rfl));intro gb196 hg w6 hbox hb;have HGc:Aside0 (w5.heap.size≤gb196):=qAm qB24;have HBd:=qAm (below_step qB54 hb);clear HBc;have HBc:=HBd;clear HBd;have n0_:=qAm (Kd.R_below qB30 hb);have n1_:=qAm (below_step qB23 hb);have n2_:=qAm (hbox);have n3_:=qAm ((by rw [hg];exact(below_size qB23):w.heap.size≤gb196));have n4_:=qAm ((by rw [hg];exact(below_size qB23):w.heap.size≤gb196));clear HO194;clear HB;have HO194:=n0_;have HB:=n1_;have BK196:=n2_;have GW196:=n3_;have GE196:=n4_;clear n0_ n1_ n2_ n3_ n4_;clear hb hbox hg;have hcz7_0:w6.cell? ⟨gb196,0,none⟩=some (.int .i64 0):=(blk_cell BK196.1 0).trans rfl;have hcz7_1:w6.cell? ⟨gb196,1,none⟩=some (.int .i64 0):=(blk_cell BK196.1 1).trans rfl;have hcz7_2:w6.cell? ⟨gb196,2,none⟩=some (.int .i64 0):=(blk_cell BK196.1 2).trans rfl;have hcz7_3:w6.cell? ⟨gb196,3,none⟩=some (.slice none 0 0):=(blk_cell BK196.1 3).trans rfl;have hfz7_0:=blk_frozen BK196.1 0;have hfz7_1:=blk_frozen BK196.1 1;have hfz7_2:=blk_frozen BK196.1 2;have hfz7_3:=blk_frozen BK196.1 3;obtain⟨Ao8,co8,eo8⟩:=Kd.R_slice HO194.1;subst eo8)|((with_reducible refine gate_callee (f:=92) rfl ?_);refine goesL_ (some 16) rfl rfl Try.func92 (by kernel_rfl) rfl #[.pointer (some ⟨gb196,0,none⟩)] rfl qB55 ?_;(with_reducible refine(impl_periods_table.calls k gb196 t189 t190 t191 t192 d1 d2 d3 d4 w5 _ ?side1 ?side2 D.1).mono ?_);(case side1=>exact⟨Ao8,co8,(by (with_reducible repeat(first|refine blk_drewN ?_ _|refine blk_drew ?_|refine blk_alloc ?_ _));refine blk_put (cs:=#[.int .i64 t189,.int .i64 t190,.int .i64 t191,.slice none 0 0]) ?_ 3 _ rfl;(with_reducible repeat(first|refine blk_drewN ?_ _|refine blk_drew ?_|refine blk_alloc ?_ _));refine blk_put (cs:=#[.int .i64 t189,.int .i64 t190,.int .i64 0,.slice none 0 0]) ?_ 2 _ rfl;(with_reducible repeat(first|refine blk_drewN ?_ _|refine blk_drew ?_|refine blk_alloc ?_ _));refine blk_put (cs:=#[.int .i64 t189,.int .i64 0,.int .i64 0,.slice none 0 0]) ?_ 1 _ rfl;(with_reducible repeat(first|refine blk_drewN ?_ _|refine blk_drew ?_|refine blk_alloc ?_ _));refine blk_put (cs:=#[.int .i64 0,.int .i64 0,.int .i64 0,.slice none 0 0]) ?_ 0 _ rfl;(with_reducible repeat(first|refine blk_drewN ?_ _|refine blk_drew ?_|refine blk_alloc ?_ _));exact BK196.1),HGc.1,(Kd.R_reads' HCc.1).2.2⟩);(case side2=>exact qB25);rintro e wY ⟨v198,rfl,ho1,hi1,hb1,hk1⟩;refine⟨_,rfl,?_⟩;have n0_:=qAm (Kd.S_lower ho1 (below_size (by repeat(first|exact HB.1|apply below_alloc|apply pw_below_drewN|apply below_drew1|refine below_set ?_ GE196.1))));have n1_:=qAm (below_step HBX.1 hb1);clear HB;have HO199:=n0_;have HB:=n1_;clear n0_ n1_ ho1 hi1 hb1 hk1));go_ret2;exact⟨_,by first|rfl|(simp [errW_none,errW_some] <;> rfl)|(simp [*,errW_none,errW_some] <;> rfl),by (with_reducible repeat(first|apply Kd.S_alloc|apply Kd.S_drewN|apply Kd.S_drew));exact Kd.S_mono HO199.1 (fun _ hk=>trivial),by repeat(first|(with_reducible first|exact HB.1|apply below_alloc|apply pw_below_drewN|apply below_drew1|refine below_set ?_ GE196.1)|exact HB.1)⟩
  |false=>
    replace H:=(if_neg (show ¬(false=true) by decide)).symm.trans H;simp only [Option.some.injEq,Prod.mk.injEq] at H;obtain⟨rfl,rfl⟩:=H;go_enter Try.func34,Try.ntmps34;go_wp2_with (first|((with_reducible refine gate_callee (f:=81) rfl ?_);refine goesL_ (some 11) rfl rfl Try.func81 (by kernel_rfl) rfl #[.int .i64 a0,.int .i64 a1] rfl qB19 ?_;(with_reducible refine(impl_periodsOf.calls k a0 a1 t189 t190 t191 t192 false _ A3.1).mono ?_);rintro e w11 ⟨v193,rfl,ho0,hb⟩;refine⟨_,rfl,?_⟩;have n0_:=qAm (Kd.R_lower ho0 (below_size qB23));have n1_:=qAm (below_step qB23 hb);clear HB;have HO194:=n0_;have HB:=n1_;clear n0_ n1_;(try clear hb);(try clear hb2);(try clear hk);(try clear hi);(try clear ho0))|((with_reducible refine gate_dst (N:=6) rfl ?_);refine box_event ?hg (N:=6) ?hd (cs:=#[.int .i64 0,.int .i64 0,.int .i64 0,.slice none 0 0]) (t:=97) ?hr ?_;(case hd=>rfl);(case hg=>rfl);(case hr=>first|(go_simp;done)|(go_simp;rfl));intro gb196 hg w12 hbox hb;have n0_:=qAm (Kd.R_below qB30 hb);have n1_:=qAm (below_step qB23 hb);have n2_:=qAm (hbox);have n3_:=qAm ((by rw [hg];exact(below_size qB23):w.heap.size≤gb196));have n4_:=qAm ((by rw [hg];exact(below_size qB23):w.heap.size≤gb196));clear HO194;clear HB;have HO194:=n0_;have HB:=n1_;have BK196:=n2_;have GW196:=n3_;have GE196:=n4_;clear n0_ n1_ n2_ n3_ n4_;clear hb hbox hg;have hcz13_0:w12.cell? ⟨gb196,0,none⟩=some (.int .i64 0):=(blk_cell BK196.1 0).trans rfl;have hcz13_1:w12.cell? ⟨gb196,1,none⟩=some (.int .i64 0):=(blk_cell BK196.1 1).trans rfl;have hcz13_2:w12.cell? ⟨gb196,2,none⟩=some (.int .i64 0):=(blk_cell BK196.1 2).trans rfl;have hcz13_3:w12.cell? ⟨gb196,3,none⟩=some (.slice none 0 0):=(blk_cell BK196.1 3).trans rfl;have hfz13_0:=blk_frozen BK196.1 0;have hfz13_1:=blk_frozen BK196.1 1;have hfz13_2:=blk_frozen BK196.1 2;have hfz13_3:=blk_frozen BK196.1 3;obtain⟨Ao14,co14,eo14⟩:=Kd.R_slice HO194.1;subst eo14));go_ret2;exact⟨_,by first|rfl|(simp [errW_none,errW_some] <;> rfl)|(simp [*,errW_none,errW_some] <;> rfl),by first|exact Kd.S_nil _ _ _ _ _|exact Kd.N_nil _ _ _ _ _|exact Kd.V_nil _ _ _ _ _|exact Kd.Q_nil _ _ _ _ _|exact Kd.R_nil _ _ _ _ _,by repeat(first|(with_reducible first|exact HB.1|apply below_alloc|apply pw_below_drewN|apply below_drew1|refine below_set ?_ GE196.1)|exact HB.1)⟩

/-! ### spec_l01In: function 83 -/
def spec_l01In.f (a0:Int) (a1:Int) (a2:Int):Option (Bool):=if a0≥a1 then (some (decide (a0≤a2))) else (some false)
set_option maxHeartbeats 8000000 in
set_option maxRecDepth 100000 in
theorem spec_l01In.calls (a0:Int) (a1:Int) (a2:Int) (r:Bool) (w:World) (h:spec_l01In.f a0 a1 a2=some r):
    Calls Try.prog 83 #[.int .i64 a0,.int .i64 a1,.int .i64 a2] w fun e w'=>e=.returned (.bool r)∧Drawn0 w w':=by
  have H:(if a0≥a1 then (some (decide (a0≤a2))) else (some false))=some r:=h;clear h
  by_cases c4:a0≥a1
  · rw [if_pos c4] at H
    have c4b0:decide (a1≤a0)=true:=decide_eq_true c4;clear c4;obtain rfl:=Option.some.inj H;go_enter Try.func83,Try.ntmps83;go_wp2;go_ret;exact⟨by first|rfl|(simp;done)|(simp [*];done),by repeat(first|exact Drawn0.refl _|apply Drawn0.step)⟩
  · rw [if_neg c4] at H
    have c4b0:decide (a1≤a0)=false:=decide_eq_false c4;clear c4;obtain rfl:=Option.some.inj H;go_enter Try.func83,Try.ntmps83;go_wp2;go_ret;exact⟨by first|rfl|(simp;done)|(simp [*];done),by repeat(first|exact Drawn0.refl _|apply Drawn0.step)⟩

/-! ### spec_l06Prime: function 121 -/
def spec_l06Prime.l0:Nat→Int→Int→Option (Bool)
  |0,_,_=>none
  |k+1,x0,x3=>if (wrap64 (x3*x3))≤x0 then (if x3=0 then (none) else (if (Int.tmod x0 x3)=0 then (some false) else (spec_l06Prime.l0 k x0 (wrap64 (x3+1))))) else (some true)
def spec_l06Prime.f (k:Nat) (a0:Int):Option (Bool):=(spec_l01In.f a0 3 61).bind fun t200=>(if t200=true then (spec_l06Prime.l0 k a0 2) else (some false))
theorem spec_l06Prime.mono_l:∀k,(∀y0 y1,LeO (spec_l06Prime.l0 k y0 y1) (spec_l06Prime.l0 (k+1) y0 y1))
  |0=>fun _ _ r h=>by simp [spec_l06Prime.l0] at h
  |k+1=>by
    have ih0:=spec_l06Prime.mono_l k
    · intro y0 y1
      unfold spec_l06Prime.l0;repeat' first
      |(with_reducible exact ih0 _ _)
      |(with_reducible exact LeO.refl _)
      |(with_reducible exact LeO.none _)
      |(with_reducible refine LeO.ite ?_ ?_)
      |(with_reducible refine LeO.bind ?_ (fun _=>?_))
      |exact ih0 _ _
      |exact LeO.none _
      |refine LeO.ite ?_ ?_
      |refine LeO.bind ?_ (fun _=>?_)
theorem spec_l06Prime.mono:∀a0 k,LeO (spec_l06Prime.f k a0) (spec_l06Prime.f (k+1) a0):=by
  intro a0 k;have ih0:=spec_l06Prime.mono_l k;unfold spec_l06Prime.f;repeat' first
      |(with_reducible exact ih0 _ _)
      |(with_reducible exact LeO.refl _)
      |(with_reducible exact LeO.none _)
      |(with_reducible refine LeO.ite ?_ ?_)
      |(with_reducible refine LeO.bind ?_ (fun _=>?_))
      |exact ih0 _ _
      |exact LeO.none _
      |refine LeO.ite ?_ ?_
      |refine LeO.bind ?_ (fun _=>?_)
set_option maxHeartbeats 8000000 in
set_option maxRecDepth 100000 in
theorem spec_l06Prime.calls (k:Nat) (a0:Int) (r:Bool) (w:World) (h:spec_l06Prime.f k a0=some r):
    Calls Try.prog 121 #[.int .i64 a0] w fun e w'=>e=.returned (.bool r)∧Drawn0 w w':=by
  have H:((spec_l01In.f a0 3 61).bind fun t200=>(if t200=true then (spec_l06Prime.l0 k a0 2) else (some false)))=some r:=h;clear h;replace H:=qOb H;obtain⟨t200,A20,H⟩:=H;replace H:(if t200=true then (spec_l06Prime.l0 k a0 2) else (some false))=some r:=H;have A2:=qAm A20;clear A20
  by_cases c3:t200=true
  · subst c3
    have H1:(spec_l06Prime.l0 k a0 2)=some r:=by rw [if_pos rfl] at H;exact H
    clear H;have H:=H1;clear H1;have H':=qAm H;clear H;go_enter Try.func121,Try.ntmps121;go_wp2_with (first|((with_reducible refine gate_callee (f:=83) rfl ?_);refine goesL_ (some 5) rfl rfl Try.func83 (by kernel_rfl) rfl #[.int .i64 a0,.int .i64 3,.int .i64 61] rfl qB19 ?_;(with_reducible refine(spec_l01In.calls a0 3 61 true _ A2.1).mono ?_);rintro e w' ⟨rfl,⟨nd,rfl⟩⟩;refine⟨_,rfl,?_⟩));try simp only [Act.put,qSa,qSc,qSb]
    go_loopg [3] k (fun kq v3 w'=>∃(x3_1:Int),v3=.int .i64 x3_1∧Aside0 (spec_l06Prime.l0 kq a0 x3_1=some r)∧Aside0 (kq≤k)∧Drawn0 w w')
    case atStart=>exact⟨(2),qB57,H',⟨Nat.le_refl _⟩,by repeat(first|exact Drawn0.refl _|apply Drawn0.step)⟩
    case round=>
      clear H';try clear c1
      try clear p2
      try clear c3
      obtain⟨x3_1,rfl,HA,HK1,⟨m1,rfl⟩⟩:=hrel;cases gk with
      |zero=>exact absurd HA.1 (by simp [spec_l06Prime.l0])
      |succ k1=>
        have H:=HA.1;clear HA;simp only [spec_l06Prime.l0] at H
        by_cases c4:(wrap64 (x3_1*x3_1))≤a0
        · rw [if_pos c4] at H
          have c4b0:decide ((wrap64 (x3_1*x3_1))≤a0)=true:=decide_eq_true c4;clear c4
          by_cases c5:x3_1=0
          · rw [if_pos c5] at H
            exact absurd H (by simp)
          · rw [if_neg c5] at H
            have c5b0:(x3_1==0)=false:=beq_eq_false_iff_ne.mpr c5;have c5b1:(x3_1 !=0)=true:=bne_iff_ne.mpr c5
            by_cases c6:(Int.tmod a0 x3_1)=0
            · rw [if_pos c6] at H
              have c6b0:((Int.tmod a0 x3_1)==0)=true:=beq_iff_eq.mpr c6;have c6b1:((Int.tmod a0 x3_1) !=0)=false:=bne_eq_false_iff_eq.mpr c6;clear c6;obtain rfl:=Option.some.inj H;go_wp2;go_ret;exact⟨by first|rfl|(simp;done)|(simp [*];done),by repeat(first|exact Drawn0.refl _|apply Drawn0.step)⟩
            · rw [if_neg c6] at H
              have c6b0:((Int.tmod a0 x3_1)==0)=false:=beq_eq_false_iff_ne.mpr c6;have c6b1:((Int.tmod a0 x3_1) !=0)=true:=bne_iff_ne.mpr c6;have H':=qAm H;clear H;go_wp2
              (first|go_roundg k1|((try simp only [add_plain] at *);go_roundg k1))
              case measure=>have:=HK1.1;omega
              case rel=>exact⟨(wrap64 (x3_1+1)),qB57,H',⟨by have:=HK1.1;omega⟩,by repeat(first|exact Drawn0.refl _|apply Drawn0.step)⟩
        · rw [if_neg c4] at H
          have c4b0:decide ((wrap64 (x3_1*x3_1))≤a0)=false:=decide_eq_false c4;clear c4;obtain rfl:=Option.some.inj H;go_wp2;go_ret;exact⟨by first|rfl|(simp;done)|(simp [*];done),by repeat(first|exact Drawn0.refl _|apply Drawn0.step)⟩
  · replace c3:=Bool.eq_false_iff.mpr c3
    subst c3;have H1:(some false)=some r:=by rw [if_neg (show ¬(false=true) by decide)] at H;exact H
    clear H;have H:=H1;clear H1;obtain rfl:=Option.some.inj H;go_enter Try.func121,Try.ntmps121;go_wp2_with (first|((with_reducible refine gate_callee (f:=83) rfl ?_);refine goesL_ (some 5) rfl rfl Try.func83 (by kernel_rfl) rfl #[.int .i64 a0,.int .i64 3,.int .i64 61] rfl qB19 ?_;(with_reducible refine(spec_l01In.calls a0 3 61 false _ A2.1).mono ?_);rintro e w' ⟨rfl,⟨nd,rfl⟩⟩;refine⟨_,rfl,?_⟩));go_ret;exact⟨by first|rfl|(simp;done)|(simp [*];done),by repeat(first|exact Drawn0.refl _|apply Drawn0.step)⟩

end Go.Proofs.Ytefhabkikaadiaa.PFnPeriods
