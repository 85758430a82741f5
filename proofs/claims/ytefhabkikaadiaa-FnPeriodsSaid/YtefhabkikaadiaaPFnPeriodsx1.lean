/- The functions that the law reaches, as plain functions, each with the proof that the program comes to it; no condition. Written by a program of this session (wip/mp.py) over the printing of the kit; what is marked HAND is told by hand. -/
import Derived.Test.YtefhabkikaadiaaPFnPeriodsx0
namespace Go.Proofs.Ytefhabkikaadiaa.PFnPeriods
open Go.RowKit Go.Proofs.YtefhabkikaadiaaW.PrintWords Go.Proofs.YtefhabkikaadiaaW.PrintLast Go.Proofs.YtefhabkikaadiaaW.PrintMore
attribute [local go_sem] max2_int min2_int max_two min_two max_three min_three max_four min_four   -- for this text's walks alone
set_option linter.unusedVariables false
set_option linter.unusedSimpArgs false

/-! ### laws_big: function 32 -/
def laws_big.f (l0:List Int):Option (Bool):=some (decide ((l0.length:Int) > 4096))
set_option maxHeartbeats 8000000 in
set_option maxRecDepth 100000 in
theorem laws_big.calls (A0:Option Addr) (c0:Nat) (l0:List Int) (r:Bool) (w:World) (hr0:Kd.C (Kd.int .u8) w A0 l0.length l0) (hc0:l0.length≤c0) (h:laws_big.f l0=some r):
    Calls Try.prog 32 #[.slice A0 l0.length c0] w fun e w'=>e=.returned (.bool r)∧Drawn0 w w':=by
  have HR0:=qAm hr0;have HC0:=qAm hc0;clear hr0 hc0;have H:(some (decide ((l0.length:Int) > 4096)))=some r:=h;clear h;obtain rfl:=Option.some.inj H;go_enter Try.func32,Try.ntmps32;go_wp2;go_ret;exact⟨by first|rfl|(simp;done)|(simp [*];done),by repeat(first|exact Drawn0.refl _|apply Drawn0.step)⟩

/-- A state of type 126 at block g of W; what its slices lead to came in by w0. -/
def IsS126 (w0 W:World) (g:Nat) (f0:List Int) (f1:Int) (f2:Int):Prop:=∃A0 c0,W.heap[g]? =some (.cells #[.slice A0 f0.length c0,.int .i64 f1,.int .u64 f2] 126 (0,0))∧w0.heap.size≤g∧Kd.C (Kd.int .u8) w0 A0 f0.length f0
theorem IsS126.grown {w0 W:World} {g:Nat} {f0:List Int} {f1:Int} {f2:Int} {W1:World} {row:Option Nat} (h:IsS126 w0 W g f0 f1 f2) (hw:W.grownBy W1 row) (hne:some g≠row):IsS126 w0 W1 g f0 f1 f2:=by
  obtain⟨A0,c0,hb,hg,hr0⟩:=h;exact⟨A0,c0,blk_grown hb hw hne,hg,hr0⟩
theorem IsS126.own_neN {w0 W:World} {g:Nat} {f0:List Int} {f1:Int} {f2:Int} {α:Type} {d:Kd α} {e:Nat} {base:Nat} {ok:Nat→Prop} {v:Value} {xs:List α} (h:IsS126 w0 W g f0 f1 f2) (ho:Kd.N d e W base ok v xs) (ht:e≠126):some g≠v.ownBlock:=by
  obtain⟨A0,c0,hb,hg,hr0⟩:=h;exact Kd.N_ne ho hb ht
theorem IsS126.fresh {w0 W:World} {g:Nat} {f0:List Int} {f1:Int} {f2:Int} (h:IsS126 w0 W g f0 f1 f2):∀k,W.heap.size≤k→k≠g:=by
  obtain⟨A0,c0,hb,hg,hr0⟩:=h;exact Kd.freshB hb
theorem IsS126.kept {w0 W:World} {g:Nat} {f0:List Int} {f1:Int} {f2:Int} {W1:World} {S:Nat→Prop} (h:IsS126 w0 W g f0 f1 f2) (hk:Kept W W1 S) (hne:¬S g):IsS126 w0 W1 g f0 f1 f2:=by
  obtain⟨A0,c0,hb,hg,hr0⟩:=h;exact⟨A0,c0,blk_kept hb hk hne,hg,hr0⟩
theorem IsS126.below {w0 W:World} {g:Nat} {f0:List Int} {f1:Int} {f2:Int} {W1:World} (h:IsS126 w0 W g f0 f1 f2) (hw:Below W.heap.size W W1):IsS126 w0 W1 g f0 f1 f2:=h.grown (grown_of_below hw none) (by simp)
theorem IsS126.alloc {w0 W:World} {g:Nat} {f0:List Int} {f1:Int} {f2:Int} (h:IsS126 w0 W g f0 f1 f2) (o:Obj):IsS126 w0 (W.alloc o) g f0 f1 f2:=h.below (below_alloc (Below.refl _ _) o)
theorem IsS126.drewN {w0 W:World} {g:Nat} {f0:List Int} {f1:Int} {f2:Int} (h:IsS126 w0 W g f0 f1 f2) (m:Nat):IsS126 w0 (W.drewN m) g f0 f1 f2:=h
theorem IsS126.drew {w0 W:World} {g:Nat} {f0:List Int} {f1:Int} {f2:Int} (h:IsS126 w0 W g f0 f1 f2):IsS126 w0 W.drew g f0 f1 f2:=h
theorem IsS126.at_ {w0 W:World} {g:Nat} {f0:List Int} {f1:Int} {f2:Int} {w':World} {m:Nat} (hq:W.drewN m=w') (h:IsS126 w0 W g f0 f1 f2):IsS126 w0 w' g f0 f1 f2:=by subst hq;exact IsS126.drewN h m
theorem IsS126.apart {w0 W:World} {g:Nat} {f0:List Int} {f1:Int} {f2:Int} {α:Type} {d:Kd α} {e:Nat} {base:Nat} {ok:Nat→Prop} {v:Value} {xs:List α} (h:IsS126 w0 W g f0 f1 f2) (ho:d.R e W base ok v xs) (ht:∀q,q∈e::d.E→q≠126):d.R e W base (fun k=>ok k∧k≠g) v xs:=by
  obtain⟨A0,c0,hb,hg,hr0⟩:=h;exact Kd.R_types ho hb ht
theorem IsS126.own_ne {w0 W:World} {g:Nat} {f0:List Int} {f1:Int} {f2:Int} {α:Type} {d:Kd α} {e:Nat} {base:Nat} {ok:Nat→Prop} {v:Value} {xs:List α} (h:IsS126 w0 W g f0 f1 f2) (ho:d.R e W base ok v xs) (ht:e≠126):some g≠v.ownBlock:=by
  obtain⟨A0,c0,hb,hg,hr0⟩:=h;exact Kd.R_ne ho hb ht
theorem IsS126.apartQ {w0 W:World} {g:Nat} {f0:List Int} {f1:Int} {f2:Int} {α:Type} {d:Kd α} {e:Nat} {base:Nat} {ok:Nat→Prop} {v:Value} {xs:List α} (h:IsS126 w0 W g f0 f1 f2) (ho:d.Q e W base ok v xs) (ht:∀q,q∈e::d.E→q≠126):d.Q e W base (fun k=>ok k∧k≠g) v xs:=by
  obtain⟨A0,c0,hb,hg,hr0⟩:=h;exact Kd.Q_types ho hb ht
theorem IsS126.own_neQ {w0 W:World} {g:Nat} {f0:List Int} {f1:Int} {f2:Int} {α:Type} {d:Kd α} {e:Nat} {base:Nat} {ok:Nat→Prop} {v:Value} {xs:List α} (h:IsS126 w0 W g f0 f1 f2) (ho:d.Q e W base ok v xs) (ht:e≠126):some g≠v.ownBlock:=by
  obtain⟨A0,c0,hb,hg,hr0⟩:=h;exact Kd.Q_ne ho hb ht
theorem IsS126.apartS {w0 W:World} {g:Nat} {f0:List Int} {f1:Int} {f2:Int} {α:Type} {d:Kd α} {e:Nat} {base:Nat} {ok:Nat→Prop} {v:Value} {xs:List α} (h:IsS126 w0 W g f0 f1 f2) (ho:d.S e W base ok v xs) (ht:∀q,q∈e::d.E→q≠126):d.S e W base (fun k=>ok k∧k≠g) v xs:=by
  obtain⟨A0,c0,hb,hg,hr0⟩:=h;exact Kd.S_types ho hb ht
theorem IsS126.own_neS {w0 W:World} {g:Nat} {f0:List Int} {f1:Int} {f2:Int} {α:Type} {d:Kd α} {e:Nat} {base:Nat} {ok:Nat→Prop} {v:Value} {xs:List α} (h:IsS126 w0 W g f0 f1 f2) (ho:d.S e W base ok v xs) (ht:e≠126):some g≠v.ownBlock:=by
  obtain⟨A0,c0,hb,hg,hr0⟩:=h;exact Kd.S_ne ho hb ht
theorem IsS126.lt {w0 W:World} {g:Nat} {f0:List Int} {f1:Int} {f2:Int} (h:IsS126 w0 W g f0 f1 f2):g<W.heap.size:=by
  obtain⟨A0,c0,hb,hg,hr0⟩:=h;exact blk_lt hb
theorem IsS126.ge {w0 W:World} {g:Nat} {f0:List Int} {f1:Int} {f2:Int} (h:IsS126 w0 W g f0 f1 f2):w0.heap.size≤g:=by
  obtain⟨A0,c0,hb,hg,hr0⟩:=h;exact hg
theorem IsS126.ne_blk {w0 W:World} {g:Nat} {f0:List Int} {f1:Int} {f2:Int} {a:Nat} {cs:Array Value} {t:TypeId} {fr:Nat×Nat} (h:IsS126 w0 W g f0 f1 f2) (hb2:W.heap[a]? =some (.cells cs t fr)) (ht:t≠126):g≠a:=by
  obtain⟨A0,c0,hb,hg,hr0⟩:=h;rintro rfl;rw [hb] at hb2;injection hb2 with hb2
  injection hb2 with _ ht2
  exact ht ht2.symm
theorem IsS126.far {w0 W:World} {g:Nat} {f0:List Int} {f1:Int} {f2:Int} {p:Addr} (h:IsS126 w0 W g f0 f1 f2) (hne:g≠p.block) (u:Value):IsS126 w0 (W.setCell p u) g f0 f1 f2:=by
  obtain⟨A0,c0,hb,hg,hr0⟩:=h;exact⟨A0,c0,blk_far hb hne u,hg,hr0⟩
theorem cellS126_0 {W:World} {g:Nat} {A0:Option Addr} {c0:Nat} {f0:List Int} {f1:Int} {f2:Int} (h:W.heap[g]? =some (.cells #[.slice A0 f0.length c0,.int .i64 f1,.int .u64 f2] 126 (0,0))):W.cell? ⟨g,0,none⟩=some (.slice A0 f0.length c0):=(blk_cell h 0).trans rfl
theorem cellS126_1 {W:World} {g:Nat} {A0:Option Addr} {c0:Nat} {f0:List Int} {f1:Int} {f2:Int} (h:W.heap[g]? =some (.cells #[.slice A0 f0.length c0,.int .i64 f1,.int .u64 f2] 126 (0,0))):W.cell? ⟨g,1,none⟩=some (.int .i64 f1):=(blk_cell h 1).trans rfl
theorem IsS126.set_1 {w0 W:World} {g:Nat} {f0:List Int} {f1:Int} {f2:Int} (h:IsS126 w0 W g f0 f1 f2) (x:Int):IsS126 w0 (W.setCell ⟨g,1,none⟩ (.int .i64 x)) g f0 x f2:=by
  obtain⟨A0,c0,hb,hg,hr0⟩:=h;exact⟨A0,c0,by simpa using blk_set hb 1 (.int .i64 x),hg,hr0⟩
theorem cellS126_2 {W:World} {g:Nat} {A0:Option Addr} {c0:Nat} {f0:List Int} {f1:Int} {f2:Int} (h:W.heap[g]? =some (.cells #[.slice A0 f0.length c0,.int .i64 f1,.int .u64 f2] 126 (0,0))):W.cell? ⟨g,2,none⟩=some (.int .u64 f2):=(blk_cell h 2).trans rfl
theorem IsS126.set_2 {w0 W:World} {g:Nat} {f0:List Int} {f1:Int} {f2:Int} (h:IsS126 w0 W g f0 f1 f2) (x:Int):IsS126 w0 (W.setCell ⟨g,2,none⟩ (.int .u64 x)) g f0 f1 x:=by
  obtain⟨A0,c0,hb,hg,hr0⟩:=h;exact⟨A0,c0,by simpa using blk_set hb 2 (.int .u64 x),hg,hr0⟩
theorem IsS126.new (w0 W:World) (A0:Option Addr) (c0:Nat) (f0:List Int) (f1:Int) (f2:Int) (hB:Below w0.heap.size w0 W) (hr0:Kd.C (Kd.int .u8) w0 A0 f0.length f0):IsS126 w0 (W.alloc (.cells #[.slice A0 f0.length c0,.int .i64 f1,.int .u64 f2] 126)) W.heap.size f0 f1 f2:=⟨A0,c0,by simpa using heap_alloc_new W _,hB.size,hr0⟩

/-! ### spec_l01Next: function 94 -/
def spec_l01Next.f (s0_0:List Int) (s0_1:Int) (s0_2:Int) (a1:Int):Option (Int×Int×Int):=if a1<1 then (some (0,s0_1,s0_2)) else (if s0_1<(s0_0.length:Int) then (if 0≤s0_1 then (if a1=0 then (none) else (some (Int.tmod (wrap64 ((wrap64 (Go.bits .and .u64 ((IntKind.u64.wrap ((IntKind.u64.wrap (s0_2*6364136223846793005))+1442695040888963407)) / 2147483648) 1073741823))+(wrap64 (rd s0_0 s0_1)))) a1,wrap64 (s0_1+1),IntKind.u64.wrap ((IntKind.u64.wrap (s0_2*6364136223846793005))+1442695040888963407)))) else (none)) else (if a1=0 then (none) else (some (Int.tmod (wrap64 (Go.bits .and .u64 ((IntKind.u64.wrap ((IntKind.u64.wrap (s0_2*6364136223846793005))+1442695040888963407)) / 2147483648) 1073741823)) a1,s0_1,IntKind.u64.wrap ((IntKind.u64.wrap (s0_2*6364136223846793005))+1442695040888963407)))))
set_option maxHeartbeats 8000000 in
set_option maxRecDepth 100000 in
theorem spec_l01Next.calls (g:Nat) (s0_0:List Int) (s0_1:Int) (s0_2:Int) (a1:Int) (r1:Int) (r2:Int) (r3:Int) (w0 w:World) (hI:IsS126 w0 w g s0_0 s0_1 s0_2) (hB:Below w0.heap.size w0 w) (h:spec_l01Next.f s0_0 s0_1 s0_2 a1=some (r1,r2,r3)):
    Calls Try.prog 94 #[.pointer (some ⟨g,0,none⟩),.int .i64 a1] w fun e w'=>e=.returned (.int .i64 r1)∧IsS126 w0 w' g s0_0 r2 r3∧Below w0.heap.size w0 w'∧KeepBut w w' g none:=by
  have HI0:=qAm hI;have HK:=qAm (KeepBut.refl w g none);have HL:=qAm hB.size;clear hI;have HW0:=qAm hB.size;have HB:=qAm hB;clear hB;have H:(if a1<1 then (some (0,s0_1,s0_2)) else (if s0_1<(s0_0.length:Int) then (if 0≤s0_1 then (if a1=0 then (none) else (some (Int.tmod (wrap64 ((wrap64 (Go.bits .and .u64 ((IntKind.u64.wrap ((IntKind.u64.wrap (s0_2*6364136223846793005))+1442695040888963407)) / 2147483648) 1073741823))+(wrap64 (rd s0_0 s0_1)))) a1,wrap64 (s0_1+1),IntKind.u64.wrap ((IntKind.u64.wrap (s0_2*6364136223846793005))+1442695040888963407)))) else (none)) else (if a1=0 then (none) else (some (Int.tmod (wrap64 (Go.bits .and .u64 ((IntKind.u64.wrap ((IntKind.u64.wrap (s0_2*6364136223846793005))+1442695040888963407)) / 2147483648) 1073741823)) a1,s0_1,IntKind.u64.wrap ((IntKind.u64.wrap (s0_2*6364136223846793005))+1442695040888963407))))))=some (r1,r2,r3):=h;clear h
  by_cases c3:a1<1
  · rw [if_pos c3] at H
    have c3b0:decide (a1<1)=true:=decide_eq_true c3;clear c3;simp only [Option.some.injEq,Prod.mk.injEq] at H;obtain⟨rfl,rfl,rfl⟩:=H;go_enter Try.func94,Try.ntmps94;go_wp2;repeat(go_quiet (fail);try go_wp2)
    go_ret;exact⟨by first|rfl|(simp [errW_none,errW_some] <;> rfl)|(simp [*,errW_none,errW_some] <;> rfl),by repeat(first|(with_reducible first|exact HI0.1|apply IsS126.alloc|apply IsS126.drewN|apply IsS126.drew|apply IsS126.set_1|apply IsS126.set_2)|exact HI0.1),by repeat(first|(with_reducible first|exact HB.1|apply below_alloc|apply pw_below_drewN|apply below_drew1|refine below_set ?_ (IsS126.ge HI0.1))|exact HB.1),by repeat(first|(with_reducible first|exact HK.1|apply KeepBut.set_|apply keep_drewN|apply keep_drew|apply keep_alloc)|exact HK.1)⟩
  · rw [if_neg c3] at H
    have c3b0:decide (a1<1)=false:=decide_eq_false c3;clear c3
    by_cases c4:s0_1<(s0_0.length:Int)
    · rw [if_pos c4] at H
      have c4b0:decide (s0_1<(s0_0.length:Int))=true:=decide_eq_true c4;clear c4
      by_cases c5:0≤s0_1
      · rw [if_pos c5] at H
        have c5b0:decide (0≤s0_1)=true:=decide_eq_true c5;clear c5
        by_cases c6:a1=0
        · rw [if_pos c6] at H
          exact absurd H (by simp)
        · rw [if_neg c6] at H
          have c6b0:(a1==0)=false:=beq_eq_false_iff_ne.mpr c6;have c6b1:(a1 !=0)=true:=bne_iff_ne.mpr c6;simp only [Option.some.injEq,Prod.mk.injEq] at H;obtain⟨rfl,rfl,rfl⟩:=H;obtain⟨ASz7_0,cSz7_0,HGz7,hgz7,HSz7_0⟩:=HI0.1;have hcz7_0:=cellS126_0 HGz7;have hcz7_1:=cellS126_1 HGz7;have hcz7_2:=cellS126_2 HGz7;have hfz7_1:=blk_frozen HGz7 1;have hfz7_2:=blk_frozen HGz7 2;clear HGz7 hgz7;have p101:0≤(s0_1:Int):=of_decide_eq_true qB56;have q101:s0_1<(s0_0.length:Int):=of_decide_eq_true qB56;obtain⟨ad101,e101,hx101_0⟩:=Kd.at_int HSz7_0 s0_1 p101 q101;cases e101
          have hn101_0:ad101.block≠g:=Nat.ne_of_lt (Nat.lt_of_lt_of_le (by have:=World.block_lt_of_cell? _ _ hx101_0;first|rwa [add_block] at this|exact this) (IsS126.ge HI0.1));replace hx101_0:=pw_cell_below HB.1 hx101_0;replace hx101_0:=(cell_far (p:=⟨g,2,none⟩) (by first|(rw [add_block];exact hn101_0)|(show(Addr.add _ _).block≠_;rw [add_block];exact hn101_0)|exact hn101_0) (.int .u64 (IntKind.u64.wrap ((IntKind.u64.wrap (s0_2*6364136223846793005))+1442695040888963407)))).trans hx101_0
          (try have hy101_0:=fun(n_:Nat)=>(show(((w.drewN n_).setCell ⟨g,2,none⟩ (.int .u64 (IntKind.u64.wrap ((IntKind.u64.wrap (s0_2*6364136223846793005))+1442695040888963407))))).cell? _=some _ from hx101_0))
          clear hn101_0;replace p101:=eq_true p101;replace q101:=eq_true q101;go_enter Try.func94,Try.ntmps94;go_wp2;repeat(go_quiet (fail);try go_wp2)
          go_ret;exact⟨by first|rfl|(simp [errW_none,errW_some] <;> rfl)|(simp [*,errW_none,errW_some] <;> rfl),by repeat(first|(with_reducible first|exact HI0.1|apply IsS126.alloc|apply IsS126.drewN|apply IsS126.drew|apply IsS126.set_1|apply IsS126.set_2)|exact HI0.1),by repeat(first|(with_reducible first|exact HB.1|apply below_alloc|apply pw_below_drewN|apply below_drew1|refine below_set ?_ (IsS126.ge HI0.1))|exact HB.1),by repeat(first|(with_reducible first|exact HK.1|apply KeepBut.set_|apply keep_drewN|apply keep_drew|apply keep_alloc)|exact HK.1)⟩
      · rw [if_neg c5] at H
        exact absurd H (by simp)
    · rw [if_neg c4] at H
      have c4b0:decide (s0_1<(s0_0.length:Int))=false:=decide_eq_false c4;clear c4
      by_cases c8:a1=0
      · rw [if_pos c8] at H
        exact absurd H (by simp)
      · rw [if_neg c8] at H
        have c8b0:(a1==0)=false:=beq_eq_false_iff_ne.mpr c8;have c8b1:(a1 !=0)=true:=bne_iff_ne.mpr c8;simp only [Option.some.injEq,Prod.mk.injEq] at H;obtain⟨rfl,rfl,rfl⟩:=H;obtain⟨ASz9_0,cSz9_0,HGz9,hgz9,HSz9_0⟩:=HI0.1;have hcz9_0:=cellS126_0 HGz9;have hcz9_1:=cellS126_1 HGz9;have hcz9_2:=cellS126_2 HGz9;have hfz9_1:=blk_frozen HGz9 1;have hfz9_2:=blk_frozen HGz9 2;clear HGz9 hgz9;go_enter Try.func94,Try.ntmps94;go_wp2;repeat(go_quiet (fail);try go_wp2)
        go_ret;exact⟨by first|rfl|(simp [errW_none,errW_some] <;> rfl)|(simp [*,errW_none,errW_some] <;> rfl),by repeat(first|(with_reducible first|exact HI0.1|apply IsS126.alloc|apply IsS126.drewN|apply IsS126.drew|apply IsS126.set_1|apply IsS126.set_2)|exact HI0.1),by repeat(first|(with_reducible first|exact HB.1|apply below_alloc|apply pw_below_drewN|apply below_drew1|refine below_set ?_ (IsS126.ge HI0.1))|exact HB.1),by repeat(first|(with_reducible first|exact HK.1|apply KeepBut.set_|apply keep_drewN|apply keep_drew|apply keep_alloc)|exact HK.1)⟩

/-! ### spec_l06Primes: function 125 -/
def spec_l06Primes.f  :Option (List Int):=some (([3,5,7,11,13,17,19,23,29,31,37,41,43,47,53,59,61]:List Int))
set_option maxHeartbeats 8000000 in
set_option maxRecDepth 100000 in
theorem spec_l06Primes.calls  (r:List Int) (w:World) (h:spec_l06Primes.f  =some r):
    Calls Try.prog 125 #[] w fun e w'=>∃v0_:Value,e=.returned (v0_)∧Kd.R (Kd.int .i64) 2 w' w.heap.size (fun _=>True) v0_ r∧Below w.heap.size w w':=by
  have HB:=qAm (Below.refl w.heap.size w);have H:(some (([3,5,7,11,13,17,19,23,29,31,37,41,43,47,53,59,61]:List Int)))=some r:=h;clear h;obtain⟨y102,hy102⟩:∃y_:List Int,y_=(([3,5,7,11,13,17,19,23,29,31,37,41,43,47,53,59,61]:List Int)):=⟨_,rfl⟩
  replace H:(some y102)=some r:=by first|(rw [hy102];with_reducible exact H)|(have H2_:=(Option.bind_some _ _).symm.trans H;rw [hy102];with_reducible exact H2_)|(have H2_:=(Option.bind_some _ _).symm.trans H;with_reducible exact H2_)|with_reducible exact H|(rw [hy102];exact H)|exact H
  have Ny102:=qAm hy102;clear hy102;obtain rfl:=Option.some.inj H;go_enter Try.func125,Try.ntmps125;go_wp2_with (first|((with_reducible refine gate_dst (N:=1) rfl ?_);refine Kd.R_lit (Kd.int .i64) _ 2 ?hg (N:=1) ?hd (xs:=([3,5,7,11,13,17,19,23,29,31,37,41,43,47,53,59,61]:List Int)) (inner:=[.int .i64 3,.int .i64 5,.int .i64 7,.int .i64 11,.int .i64 13,.int .i64 17,.int .i64 19,.int .i64 23,.int .i64 29,.int .i64 31,.int .i64 37,.int .i64 41,.int .i64 43,.int .i64 47,.int .i64 53,.int .i64 59,.int .i64 61]) (ok:=fun _=>True) (okp:=fun _=>True) ?hr ?hp (fun _ hk=>hk) trivial (Below.refl _ _) (Nat.le_refl _) (by simp) ?_;(case hd=>rfl);(case hg=>rfl);(case hr=>first|(go_simp;done)|(go_simp;rfl));(case hp=>exact(Reps.one (show Kd.M (Kd.int .i64) _ _ _ 3 [.int .i64 3] from rfl) (Reps.one (show Kd.M (Kd.int .i64) _ _ _ 5 [.int .i64 5] from rfl) (Reps.one (show Kd.M (Kd.int .i64) _ _ _ 7 [.int .i64 7] from rfl) (Reps.one (show Kd.M (Kd.int .i64) _ _ _ 11 [.int .i64 11] from rfl) (Reps.one (show Kd.M (Kd.int .i64) _ _ _ 13 [.int .i64 13] from rfl) (Reps.one (show Kd.M (Kd.int .i64) _ _ _ 17 [.int .i64 17] from rfl) (Reps.one (show Kd.M (Kd.int .i64) _ _ _ 19 [.int .i64 19] from rfl) (Reps.one (show Kd.M (Kd.int .i64) _ _ _ 23 [.int .i64 23] from rfl) (Reps.one (show Kd.M (Kd.int .i64) _ _ _ 29 [.int .i64 29] from rfl) (Reps.one (show Kd.M (Kd.int .i64) _ _ _ 31 [.int .i64 31] from rfl) (Reps.one (show Kd.M (Kd.int .i64) _ _ _ 37 [.int .i64 37] from rfl) (Reps.one (show Kd.M (Kd.int .i64) _ _ _ 41 [.int .i64 41] from rfl) (Reps.one (show Kd.M (Kd.int .i64) _ _ _ 43 [.int .i64 43] from rfl) (Reps.one (show Kd.M (Kd.int .i64) _ _ _ 47 [.int .i64 47] from rfl) (Reps.one (show Kd.M (Kd.int .i64) _ _ _ 53 [.int .i64 53] from rfl) (Reps.one (show Kd.M (Kd.int .i64) _ _ _ 59 [.int .i64 59] from rfl) (Reps.one (show Kd.M (Kd.int .i64) _ _ _ 61 [.int .i64 61] from rfl) (Reps.none _ _)))))))))))))))))));intro v103 w1 ho2 hb hg_ hnew_;clear hg_ hnew_;(first|rw [← Ny102.1] at ho2|(simp only [Int.reduceToNat] at ho2;rw [← Ny102.1] at ho2));have n0_:=qAm (Kd.R_lower ho2 (below_size qB23));have n1_:=qAm (below_step qB23 hb);clear HB;have HO104:=n0_;have HB:=n1_;clear n0_ n1_;clear hb ho2));go_ret;exact⟨_,by first|rfl|(simp [errW_none,errW_some] <;> rfl)|(simp [*,errW_none,errW_some] <;> rfl),by (with_reducible repeat(first|apply Kd.R_alloc|apply Kd.R_drewN|apply Kd.R_drew));exact HO104.1,by repeat(first|(with_reducible first|exact HB.1|apply below_alloc|apply pw_below_drewN|apply below_drew1)|exact HB.1)⟩

/-! ### spec_l01Pick: function 126 -/
def spec_l01Pick.f (s0_0:List Int) (s0_1:Int) (s0_2:Int) (l1:List Int):Option (Int×Int×Int):=(spec_l01Next.f s0_0 s0_1 s0_2 (l1.length:Int)).bind fun bt105=>(if 0≤bt105.1 then (if bt105.1<(l1.length:Int) then (some (rd l1 bt105.1,bt105.2.1,bt105.2.2)) else (none)) else (none))
set_option maxHeartbeats 8000000 in
set_option maxRecDepth 100000 in
theorem spec_l01Pick.calls (g:Nat) (s0_0:List Int) (s0_1:Int) (s0_2:Int) (A1:Option Addr) (c1:Nat) (l1:List Int) (r1:Int) (r2:Int) (r3:Int) (w0 w:World) (hI:IsS126 w0 w g s0_0 s0_1 s0_2) (hB:Below w0.heap.size w0 w) (hr1:Kd.C (Kd.int .i64) w A1 l1.length l1) (hc1:l1.length≤c1) (hf1:∀ad,A1=some ad→0<l1.length→ad.block≠g) (h:spec_l01Pick.f s0_0 s0_1 s0_2 l1=some (r1,r2,r3)):
    Calls Try.prog 126 #[.pointer (some ⟨g,0,none⟩),.slice A1 l1.length c1] w fun e w'=>e=.returned (.int .i64 r1)∧IsS126 w0 w' g s0_0 r2 r3∧Below w0.heap.size w0 w'∧KeepBut w w' g none:=by
  have HR1:=qAm hr1;have HC1:=qAm hc1;clear hr1 hc1;have HI0:=qAm hI;have HK:=qAm (KeepBut.refl w g none);have HL:=qAm hB.size;clear hI;have HW0:=qAm hB.size;have HB:=qAm hB;clear hB;have H:((spec_l01Next.f s0_0 s0_1 s0_2 (l1.length:Int)).bind fun bt105=>(if 0≤bt105.1 then (if bt105.1<(l1.length:Int) then (some (rd l1 bt105.1,bt105.2.1,bt105.2.2)) else (none)) else (none)))=some (r1,r2,r3):=h;clear h;replace H:=qOb H;obtain⟨⟨t105,t106,t107⟩,A30,H⟩:=H;replace H:(if 0≤t105 then (if t105<(l1.length:Int) then (some (rd l1 t105,t106,t107)) else (none)) else (none))=some (r1,r2,r3):=H;have A3:=qAm A30;clear A30
  by_cases c4:0≤t105
  · rw [if_pos c4] at H
    have c4b0:decide (0≤t105)=true:=decide_eq_true c4;clear c4
    by_cases c5:t105<(l1.length:Int)
    · rw [if_pos c5] at H
      have c5b0:decide (t105<(l1.length:Int))=true:=decide_eq_true c5;clear c5;simp only [Option.some.injEq,Prod.mk.injEq] at H;obtain⟨rfl,rfl,rfl⟩:=H;go_enter Try.func126,Try.ntmps126;go_wp2_with (first|((with_reducible refine gate_callee (f:=94) rfl ?_);refine goesL_ (some 9) rfl rfl Try.func94 (by kernel_rfl) rfl #[.pointer (some ⟨g,0,none⟩),.int .i64 (l1.length:Int)] rfl qB19 ?_;(with_reducible refine(spec_l01Next.calls g s0_0 s0_1 s0_2 (l1.length:Int) t105 t106 t107 w0 _ ?side1 ?side2 A3.1).mono ?_);(case side1=>repeat(first|(with_reducible first|exact HI0.1|apply IsS126.alloc|apply IsS126.drewN|apply IsS126.drew|apply IsS126.set_1|apply IsS126.set_2)|exact HI0.1));(case side2=>repeat(first|(with_reducible first|exact HB.1|apply below_alloc|apply pw_below_drewN|apply below_drew1|refine below_set ?_ (IsS126.ge HI0.1))|exact HB.1));rintro e w6 ⟨rfl,hi,hb,hk⟩;refine⟨_,rfl,?_⟩;have n0_:=qAm (KeepBut.trans qB18 hk (.inl rfl));have n1_:=qAm (hb);have n2_:=qAm (hi);clear HK;clear HB;clear HI0;have HK:=n0_;have HB:=n1_;have HI0:=n2_;clear n0_ n1_ n2_;(try clear hb);(try clear hb2);(try clear hk);(try clear hi);have p108:0≤(t105:Int):=of_decide_eq_true qB56;have q108:t105<(l1.length:Int):=of_decide_eq_true qB56;obtain⟨ad108,e108,hx108_0⟩:=Kd.at_int HR1.1 t105 p108 q108;cases e108;replace hx108_0:=keep_cell HK.1 hx108_0 (by first|(rw [add_block];exact hf1 _ rfl (by omega))|exact hf1 _ rfl (by omega)|exact hf1 ad108 rfl (by omega));replace p108:=eq_true p108;replace q108:=eq_true q108));go_ret;exact⟨by first|rfl|(simp [errW_none,errW_some] <;> rfl)|(simp [*,errW_none,errW_some] <;> rfl),by repeat(first|(with_reducible first|exact HI0.1|apply IsS126.alloc|apply IsS126.drewN|apply IsS126.drew|apply IsS126.set_1|apply IsS126.set_2)|exact HI0.1),by repeat(first|(with_reducible first|exact HB.1|apply below_alloc|apply pw_below_drewN|apply below_drew1|refine below_set ?_ (IsS126.ge HI0.1))|exact HB.1),by repeat(first|(with_reducible first|exact HK.1|apply KeepBut.set_|apply keep_drewN|apply keep_drew|apply keep_alloc)|exact HK.1)⟩
    · rw [if_neg c5] at H
      exact absurd H (by simp)
  · rw [if_neg c4] at H
    exact absurd H (by simp)

/-! ### spec_l06Draw: function 90 -/
def spec_l06Draw.l0:Nat→Int→List Int→Int→List Int→Int→Int→Option (Int×Int×Int×Int)
  |0,_,_,_,_,_,_=>none
  |k+1,x5,x6,x7,x1000,x1001,x1002=>if x7≤12 then (if x7=0 then (none) else (if (Int.tmod (wrap64 (x5 - 1)) x7)=0 then (if x6.length<17592186044416 then (spec_l06Draw.l0 k x5 (x6 ++ [x7]) (wrap64 (x7+1)) x1000 x1001 x1002) else (none)) else (spec_l06Draw.l0 k x5 x6 (wrap64 (x7+1)) x1000 x1001 x1002))) else ((spec_l01Next.f x1000 x1001 x1002 (x6.length:Int)).bind fun bt122=>(if 0≤bt122.1 then (if bt122.1<(x6.length:Int) then ((spec_l01Next.f x1000 bt122.2.1 bt122.2.2 40).bind fun bt126=>(if bt126.1=0 then ((spec_l01Pick.f x1000 bt126.2.1 bt126.2.2 (([2,9,67,(-3)]:List Int))).bind fun bt132=>(some (bt132.1,rd x6 bt122.1,bt132.2.1,bt132.2.2))) else (if bt126.1=1 then ((spec_l01Pick.f x1000 bt126.2.1 bt126.2.2 (([0,13,wrap64 ((rd x6 bt122.1)+1)]:List Int))).bind fun bt138=>(some (x5,bt138.1,bt138.2.1,bt138.2.2))) else (some (x5,rd x6 bt122.1,bt126.2.1,bt126.2.2))))) else (none)) else (none)))
def spec_l06Draw.f (k:Nat) (s0_0:List Int) (s0_1:Int) (s0_2:Int):Option (Int×Int×Int×Int):=(spec_l06Primes.f).bind fun t109=>((spec_l01Next.f s0_0 s0_1 s0_2 17).bind fun bt112=>(if 0≤bt112.1 then (if bt112.1<(t109.length:Int) then (spec_l06Draw.l0 k (rd t109 bt112.1) (([]:List Int)) 1 s0_0 bt112.2.1 bt112.2.2) else (none)) else (none)))
theorem spec_l06Draw.mono_l:∀k,(∀y0 y1 y2 y3 y4 y5,LeO (spec_l06Draw.l0 k y0 y1 y2 y3 y4 y5) (spec_l06Draw.l0 (k+1) y0 y1 y2 y3 y4 y5))
  |0=>fun _ _ _ _ _ _ r h=>by simp [spec_l06Draw.l0] at h
  |k+1=>by
    have ih0:=spec_l06Draw.mono_l k
    · intro y0 y1 y2 y3 y4 y5
      unfold spec_l06Draw.l0;repeat' first
      |(with_reducible exact ih0 _ _ _ _ _ _)
      |(with_reducible exact LeO.refl _)
      |(with_reducible exact LeO.none _)
      |(with_reducible refine LeO.ite ?_ ?_)
      |(with_reducible refine LeO.bind ?_ (fun _=>?_))
      |exact ih0 _ _ _ _ _ _
      |exact LeO.none _
      |refine LeO.ite ?_ ?_
      |refine LeO.bind ?_ (fun _=>?_)
theorem spec_l06Draw.mono:∀a0 a1 a2 k,LeO (spec_l06Draw.f k a0 a1 a2) (spec_l06Draw.f (k+1) a0 a1 a2):=by
  intro a0 a1 a2 k;have ih0:=spec_l06Draw.mono_l k;unfold spec_l06Draw.f;repeat' first
      |(with_reducible exact ih0 _ _ _ _ _ _)
      |(with_reducible exact LeO.refl _)
      |(with_reducible exact LeO.none _)
      |(with_reducible refine LeO.ite ?_ ?_)
      |(with_reducible refine LeO.bind ?_ (fun _=>?_))
      |exact ih0 _ _ _ _ _ _
      |exact LeO.none _
      |refine LeO.ite ?_ ?_
      |refine LeO.bind ?_ (fun _=>?_)
set_option maxHeartbeats 8000000 in
set_option maxRecDepth 100000 in
theorem spec_l06Draw.calls (k:Nat) (g:Nat) (s0_0:List Int) (s0_1:Int) (s0_2:Int) (r1:Int) (r2:Int) (r3:Int) (r4:Int) (w0 w:World) (hI:IsS126 w0 w g s0_0 s0_1 s0_2) (hB:Below w0.heap.size w0 w) (h:spec_l06Draw.f k s0_0 s0_1 s0_2=some (r1,r2,r3,r4)):
    Calls Try.prog 90 #[.pointer (some ⟨g,0,none⟩)] w fun e w'=>e=.returned (.tuple #[.int .i64 r1,.int .i64 r2])∧IsS126 w0 w' g s0_0 r3 r4∧Below w0.heap.size w0 w'∧KeepBut w w' g none:=by
  have HI0:=qAm hI;have HK:=qAm (KeepBut.refl w g none);have HL:=qAm hB.size;clear hI;have HW0:=qAm hB.size;have HB:=qAm hB;clear hB;have H:((spec_l06Primes.f).bind fun t109=>((spec_l01Next.f s0_0 s0_1 s0_2 17).bind fun bt112=>(if 0≤bt112.1 then (if bt112.1<(t109.length:Int) then (spec_l06Draw.l0 k (rd t109 bt112.1) (([]:List Int)) 1 s0_0 bt112.2.1 bt112.2.2) else (none)) else (none))))=some (r1,r2,r3,r4):=h;clear h;replace H:=qOb H;obtain⟨t109,A20,H⟩:=H;replace H:((spec_l01Next.f s0_0 s0_1 s0_2 17).bind fun bt112=>(if 0≤bt112.1 then (if bt112.1<(t109.length:Int) then (spec_l06Draw.l0 k (rd t109 bt112.1) (([]:List Int)) 1 s0_0 bt112.2.1 bt112.2.2) else (none)) else (none)))=some (r1,r2,r3,r4):=H;have A2:=qAm A20;clear A20;replace H:=qOb H;obtain⟨⟨t112,t113,t114⟩,A30,H⟩:=H;replace H:(if 0≤t112 then (if t112<(t109.length:Int) then (spec_l06Draw.l0 k (rd t109 t112) (([]:List Int)) 1 s0_0 t113 t114) else (none)) else (none))=some (r1,r2,r3,r4):=H;have A3:=qAm A30;clear A30
  by_cases c4:0≤t112
  · rw [if_pos c4] at H
    have c4b0:decide (0≤t112)=true:=decide_eq_true c4;clear c4
    by_cases c5:t112<(t109.length:Int)
    · rw [if_pos c5] at H
      have c5b0:decide (t112<(t109.length:Int))=true:=decide_eq_true c5;clear c5;obtain⟨y116,hy116⟩:∃y_:List Int,y_=(([]:List Int)):=⟨_,rfl⟩
      replace H:(spec_l06Draw.l0 k (rd t109 t112) y116 1 s0_0 t113 t114)=some (r1,r2,r3,r4):=by first|(rw [hy116];with_reducible exact H)|(have H2_:=(Option.bind_some _ _).symm.trans H;rw [hy116];with_reducible exact H2_)|(have H2_:=(Option.bind_some _ _).symm.trans H;with_reducible exact H2_)|with_reducible exact H|(rw [hy116];exact H)|exact H
      have Ny116:=qAm hy116;clear hy116;have H':=qAm H;clear H;go_enter Try.func90,Try.ntmps90;go_wp2_with (first|((with_reducible refine gate_callee (f:=125) rfl ?_);refine goesL_ (some 9) rfl rfl Try.func125 (by kernel_rfl) rfl #[] rfl qB19 ?_;(with_reducible refine(spec_l06Primes.calls  t109 _ A2.1).mono ?_);rintro e w6 ⟨v110,rfl,ho0,hb⟩;refine⟨_,rfl,?_⟩;have n0_:=qAm (Kd.R_lower ho0 (keep_size (w:=w) (g:=g) (row:=none) qB18));have n1_:=qAm (IsS126.below qB10 hb);have n2_:=qAm (KeepBut.trans qB18 (KeepBut.of_below hb g none) (.inl rfl));have n3_:=qAm (below_step qB11 hb);clear HI0;clear HK;clear HB;have HO111:=n0_;have HI0:=n1_;have HK:=n2_;have HB:=n3_;clear n0_ n1_ n2_ n3_;(try clear hb);(try clear hb2);(try clear hk);(try clear hi);(try clear ho0))|((with_reducible refine gate_callee (f:=94) rfl ?_);refine goesL_ (some 12) rfl rfl Try.func94 (by kernel_rfl) rfl #[.pointer (some ⟨g,0,none⟩),.int .i64 17] rfl qB19 ?_;(with_reducible refine(spec_l01Next.calls g s0_0 s0_1 s0_2 17 t112 t113 t114 w0 _ ?side1 ?side2 A3.1).mono ?_);(case side1=>repeat(first|(with_reducible first|exact HI0.1|apply IsS126.alloc|apply IsS126.drewN|apply IsS126.drew|apply IsS126.set_1|apply IsS126.set_2)|exact HI0.1));(case side2=>repeat(first|(with_reducible first|exact HB.1|apply below_alloc|apply pw_below_drewN|apply below_drew1|refine below_set ?_ (IsS126.ge HI0.1))|exact HB.1));rintro e w7 ⟨rfl,hi,hb,hk⟩;refine⟨_,rfl,?_⟩;have n0_:=qAm (Kd.R_mono (Kd.R_keep (IsS126.apart (show IsS126 w0 _ g s0_0 s0_1 s0_2 from by repeat(first|(with_reducible first|exact HI0.1|apply IsS126.alloc|apply IsS126.drewN|apply IsS126.drew|apply IsS126.set_1|apply IsS126.set_2)|exact HI0.1)) qB28 (by decide)) hk (fun _ h=>h.2)) (fun _ h=>h.1));have n1_:=qAm (KeepBut.trans qB18 hk (.inl rfl));have n2_:=qAm (hb);have n3_:=qAm (hi);clear HO111;clear HK;clear HB;clear HI0;have HO111:=n0_;have HK:=n1_;have HB:=n2_;have HI0:=n3_;clear n0_ n1_ n2_ n3_;(try clear hb);(try clear hb2);(try clear hk);(try clear hi);obtain⟨Ao8,co8,eo8⟩:=Kd.R_slice HO111.1;subst eo8;have p115:0≤(t112:Int):=of_decide_eq_true qB56;have q115:t112<(t109.length:Int):=of_decide_eq_true qB56;obtain⟨ad115,e115,hx115_0⟩:=Kd.at_int (Kd.R_reads' HO111.1).2.2 t112 p115 q115;cases e115;replace p115:=eq_true p115;replace q115:=eq_true q115)|((with_reducible refine gate_dst (N:=15) rfl ?_);refine Kd.R_lit (Kd.int .i64) _ 2 ?hg (N:=15) ?hd (xs:=([]:List Int)) (inner:=[]) (ok:=fun _=>True) (okp:=fun _=>True) ?hr ?hp (fun _ hk=>hk) trivial (Below.refl _ _) (Nat.le_refl _) (by simp) ?_;(case hd=>rfl);(case hg=>rfl);(case hr=>first|(go_simp;done)|(go_simp;rfl));(case hp=>exact(Reps.none _ _));intro v117 w9 ho10 hb hg_ hnew_;clear hg_ hnew_;(first|rw [← Ny116.1] at ho10|(simp only [Int.reduceToNat] at ho10;rw [← Ny116.1] at ho10));have n0_:=qAm (Kd.R_elder' qB28 (Kd.R_base ho10) hb);have n1_:=qAm (Kd.R_lower (Kd.R_new' ho10 (Kd.R_lt qB28)) (keep_size (w:=w) (g:=g) (row:=none) qB18));have n2_:=qAm (IsS126.below qB10 hb);have n3_:=qAm (KeepBut.trans qB18 (KeepBut.of_below hb g none) (.inl rfl));have n4_:=qAm (below_step qB11 hb);clear HO111;clear HI0;clear HK;clear HB;have HO111:=n0_;have HO118:=n1_;have HI0:=n2_;have HK:=n3_;have HB:=n4_;clear n0_ n1_ n2_ n3_ n4_;clear hb ho10));try simp only [Act.put,qSa,qSc,qSb]
      go_loopg [6,7] k (fun kq v6 v7 w'=>∃(x6_1:List Int) (x7_1:Int),v7=.int .i64 x7_1∧Aside0 (spec_l06Draw.l0 kq (rd t109 t112) x6_1 x7_1 s0_0 t113 t114=some (r1,r2,r3,r4))∧Aside0 (kq≤k)∧Aside0 (Kd.R (Kd.int .i64) 2 w' w.heap.size (fun _=>True) v6 x6_1)∧Aside0 (IsS126 w0 w' g s0_0 t113 t114)∧Aside0 (KeepBut w w' g none)∧Aside0 (Below w0.heap.size w0 w'))
      case atStart=>exact⟨(y116),(1),qB57,H',⟨Nat.le_refl _⟩,⟨by (with_reducible repeat(first|apply Kd.R_alloc|apply Kd.R_drewN|apply Kd.R_drew));exact Kd.R_mono HO118.1 (fun _ hk=>trivial)⟩,⟨by repeat(first|(with_reducible first|exact HI0.1|apply IsS126.alloc|apply IsS126.drewN|apply IsS126.drew|apply IsS126.set_1|apply IsS126.set_2)|exact HI0.1)⟩,⟨by repeat(first|(with_reducible first|exact HK.1|apply KeepBut.set_|apply keep_drewN|apply keep_drew|apply keep_alloc)|exact HK.1)⟩,⟨by repeat(first|(with_reducible first|exact HB.1|apply below_alloc|apply pw_below_drewN|apply below_drew1|refine below_set ?_ (IsS126.ge HI0.1))|exact HB.1)⟩⟩
      case round=>
        clear H';try clear c1
        try clear p1
        try clear q1
        try clear hx1
        try clear p2
        try clear c4
        try clear c4b0
        try clear c5
        try clear c5b0
        try clear c9
        try clear hx115_0
        try clear p115
        try clear q115
        obtain⟨x6_1,x7_1,rfl,HA,HK1,HO_6,HI0,HK,HB⟩:=hrel;cases gk with
        |zero=>exact absurd HA.1 (by simp [spec_l06Draw.l0])
        |succ k1=>
          have H:=HA.1;clear HA;simp only [spec_l06Draw.l0] at H
          by_cases c11:x7_1≤12
          · rw [if_pos c11] at H
            have c11b0:decide (x7_1≤12)=true:=decide_eq_true c11;clear c11
            by_cases c12:x7_1=0
            · rw [if_pos c12] at H
              exact absurd H (by simp)
            · rw [if_neg c12] at H
              have c12b0:(x7_1==0)=false:=beq_eq_false_iff_ne.mpr c12;have c12b1:(x7_1 !=0)=true:=bne_iff_ne.mpr c12
              by_cases c13:(Int.tmod (wrap64 ((rd t109 t112) - 1)) x7_1)=0
              · rw [if_pos c13] at H
                have c13b0:((Int.tmod (wrap64 ((rd t109 t112) - 1)) x7_1)==0)=true:=beq_iff_eq.mpr c13;have c13b1:((Int.tmod (wrap64 ((rd t109 t112) - 1)) x7_1) !=0)=false:=bne_eq_false_iff_eq.mpr c13;clear c13
                by_cases c14:x6_1.length<17592186044416
                · rw [if_pos c14] at H
                  have LMc14:=qAm c14;clear c14;obtain⟨y119,hy119⟩:∃y_:List Int,y_=(x6_1 ++ [x7_1]):=⟨_,rfl⟩
                  replace H:(spec_l06Draw.l0 k1 (rd t109 t112) y119 (wrap64 (x7_1+1)) s0_0 t113 t114)=some (r1,r2,r3,r4):=by first|(rw [hy119];with_reducible exact H)|(have H2_:=(Option.bind_some _ _).symm.trans H;rw [hy119];with_reducible exact H2_)|(have H2_:=(Option.bind_some _ _).symm.trans H;with_reducible exact H2_)|with_reducible exact H|(rw [hy119];exact H)|exact H
                  have Ny119:=qAm hy119;clear hy119;have H':=qAm H;clear H;go_wp2_with (first|((with_reducible refine gate_builtin (b:=.append) (xs:=#[.tmp 25,.tmp 27]) rfl ?_);at_builtin;refine Kd.R_append (Kd.int .i64) w.heap.size rfl (.tmp 25) (.tmp 27) 22 2 (.int .i64 0) 8 rfl Try.underlying22 info2 rfl (by decide) (by omega) u6 x6_1 x7_1 [.int .i64 x7_1] (fun _=>True) (fun _=>False) rfl rfl ?aP (fun _ hk=>hk.elim) ?aF ?aO (Below.refl _ _) ?aS ?aL ?_;(case aP=>exact rfl);(case aF=>exact(fun _ _=>trivial));(case aO=>exact qB49);(case aS=>exact(keep_size (w:=w) (g:=g) (row:=none) qB18));(case aL=>have:=LMc14.1;omega);intro v120 w15 ho hb hg hat;rw [← Ny119.1] at ho;have n0_:=qAm (IsS126.grown qB10 hg (IsS126.own_ne HI0.1 HO_6.1 (by decide)));have n1_:=qAm (below_weaken qB11 HL.1 hb);have n2_:=qAm (KeepBut.trans qB18 (KeepBut.of_grown hg g) (Kd.R_base2 HO_6.1));have n3_:=qAm (ho);clear HI0;clear HB;clear HK;clear HO_6;have HI0:=n0_;have HB:=n1_;have HK:=n2_;have HO121:=n3_;clear n0_ n1_ n2_ n3_;clear ho hb hg hat))
                  (first|go_roundg k1|((try simp only [add_plain] at *);go_roundg k1))
                  case measure=>have:=HK1.1;omega
                  case rel=>exact⟨(y119),(wrap64 (x7_1+1)),qB57,H',⟨by have:=HK1.1;omega⟩,⟨by (with_reducible repeat(first|apply Kd.R_alloc|apply Kd.R_drewN|apply Kd.R_drew));exact HO121.1⟩,⟨by repeat(first|(with_reducible first|exact HI0.1|apply IsS126.alloc|apply IsS126.drewN|apply IsS126.drew|apply IsS126.set_1|apply IsS126.set_2)|exact HI0.1)⟩,⟨by repeat(first|(with_reducible first|exact HK.1|apply KeepBut.set_|apply keep_drewN|apply keep_drew|apply keep_alloc)|exact HK.1)⟩,⟨by repeat(first|(with_reducible first|exact HB.1|apply below_alloc|apply pw_below_drewN|apply below_drew1|refine below_set ?_ (IsS126.ge HI0.1))|exact HB.1)⟩⟩
                · rw [if_neg c14] at H
                  exact absurd H (by simp)
              · rw [if_neg c13] at H
                have c13b0:((Int.tmod (wrap64 ((rd t109 t112) - 1)) x7_1)==0)=false:=beq_eq_false_iff_ne.mpr c13;have c13b1:((Int.tmod (wrap64 ((rd t109 t112) - 1)) x7_1) !=0)=true:=bne_iff_ne.mpr c13;have H':=qAm H;clear H;go_wp2
                (first|go_roundg k1|((try simp only [add_plain] at *);go_roundg k1))
                case measure=>have:=HK1.1;omega
                case rel=>exact⟨(x6_1),(wrap64 (x7_1+1)),qB57,H',⟨by have:=HK1.1;omega⟩,⟨by (with_reducible repeat(first|apply Kd.R_alloc|apply Kd.R_drewN|apply Kd.R_drew));exact HO_6.1⟩,⟨by repeat(first|(with_reducible first|exact HI0.1|apply IsS126.alloc|apply IsS126.drewN|apply IsS126.drew|apply IsS126.set_1|apply IsS126.set_2)|exact HI0.1)⟩,⟨by repeat(first|(with_reducible first|exact HK.1|apply KeepBut.set_|apply keep_drewN|apply keep_drew|apply keep_alloc)|exact HK.1)⟩,⟨by repeat(first|(with_reducible first|exact HB.1|apply below_alloc|apply pw_below_drewN|apply below_drew1|refine below_set ?_ (IsS126.ge HI0.1))|exact HB.1)⟩⟩
          · rw [if_neg c11] at H
            have c11b0:decide (x7_1≤12)=false:=decide_eq_false c11;clear c11;replace H:=qOb H;obtain⟨⟨t122,t123,t124⟩,A160,H⟩:=H;replace H:(if 0≤t122 then (if t122<(x6_1.length:Int) then ((spec_l01Next.f s0_0 t123 t124 40).bind fun bt126=>(if bt126.1=0 then ((spec_l01Pick.f s0_0 bt126.2.1 bt126.2.2 (([2,9,67,(-3)]:List Int))).bind fun bt132=>(some (bt132.1,rd x6_1 t122,bt132.2.1,bt132.2.2))) else (if bt126.1=1 then ((spec_l01Pick.f s0_0 bt126.2.1 bt126.2.2 (([0,13,wrap64 ((rd x6_1 t122)+1)]:List Int))).bind fun bt138=>(some ((rd t109 t112),bt138.1,bt138.2.1,bt138.2.2))) else (some ((rd t109 t112),rd x6_1 t122,bt126.2.1,bt126.2.2))))) else (none)) else (none))=some (r1,r2,r3,r4):=H;have A16:=qAm A160;clear A160
            by_cases c17:0≤t122
            · rw [if_pos c17] at H
              have c17b0:decide (0≤t122)=true:=decide_eq_true c17;clear c17
              by_cases c18:t122<(x6_1.length:Int)
              · rw [if_pos c18] at H
                have c18b0:decide (t122<(x6_1.length:Int))=true:=decide_eq_true c18;clear c18;replace H:=qOb H;obtain⟨⟨t126,t127,t128⟩,A190,H⟩:=H;replace H:(if t126=0 then ((spec_l01Pick.f s0_0 t127 t128 (([2,9,67,(-3)]:List Int))).bind fun bt132=>(some (bt132.1,rd x6_1 t122,bt132.2.1,bt132.2.2))) else (if t126=1 then ((spec_l01Pick.f s0_0 t127 t128 (([0,13,wrap64 ((rd x6_1 t122)+1)]:List Int))).bind fun bt138=>(some ((rd t109 t112),bt138.1,bt138.2.1,bt138.2.2))) else (some ((rd t109 t112),rd x6_1 t122,t127,t128))))=some (r1,r2,r3,r4):=H;have A19:=qAm A190;clear A190
                by_cases c20:t126=0
                · rw [if_pos c20] at H
                  have c20b0:(t126==0)=true:=beq_iff_eq.mpr c20;have c20b1:(t126 !=0)=false:=bne_eq_false_iff_eq.mpr c20;clear c20;obtain⟨y129,hy129⟩:∃y_:List Int,y_=(([2,9,67,(-3)]:List Int)):=⟨_,rfl⟩
                  replace H:((spec_l01Pick.f s0_0 t127 t128 y129).bind fun bt132=>(some (bt132.1,rd x6_1 t122,bt132.2.1,bt132.2.2)))=some (r1,r2,r3,r4):=by first|(rw [hy129];with_reducible exact H)|(have H2_:=(Option.bind_some _ _).symm.trans H;rw [hy129];with_reducible exact H2_)|(have H2_:=(Option.bind_some _ _).symm.trans H;with_reducible exact H2_)|with_reducible exact H|(rw [hy129];exact H)|exact H
                  have Ny129:=qAm hy129;clear hy129;replace H:=qOb H;obtain⟨⟨t132,t133,t134⟩,A210,H⟩:=H;replace H:(some (t132,rd x6_1 t122,t133,t134))=some (r1,r2,r3,r4):=H;have A21:=qAm A210;clear A210;simp only [Option.some.injEq,Prod.mk.injEq] at H;obtain⟨rfl,rfl,rfl,rfl⟩:=H;obtain⟨Ao22,co22,eo22⟩:=Kd.R_slice HO_6.1;subst eo22;go_wp2_with (first|((with_reducible refine gate_callee (f:=94) rfl ?_);refine goesL_ (some 33) rfl rfl Try.func94 (by kernel_rfl) rfl #[.pointer (some ⟨g,0,none⟩),.int .i64 (x6_1.length:Int)] rfl qB19 ?_;(with_reducible refine(spec_l01Next.calls g s0_0 t113 t114 (x6_1.length:Int) t122 t123 t124 w0 _ ?side1 ?side2 A16.1).mono ?_);(case side1=>repeat(first|(with_reducible first|exact HI0.1|apply IsS126.alloc|apply IsS126.drewN|apply IsS126.drew|apply IsS126.set_1|apply IsS126.set_2)|exact HI0.1));(case side2=>repeat(first|(with_reducible first|exact HB.1|apply below_alloc|apply pw_below_drewN|apply below_drew1|refine below_set ?_ (IsS126.ge HI0.1))|exact HB.1));rintro e w23 ⟨rfl,hi,hb,hk⟩;refine⟨_,rfl,?_⟩;have n0_:=qAm (Kd.R_mono (Kd.R_keep (IsS126.apart (show IsS126 w0 _ g s0_0 t113 t114 from by repeat(first|(with_reducible first|exact HI0.1|apply IsS126.alloc|apply IsS126.drewN|apply IsS126.drew|apply IsS126.set_1|apply IsS126.set_2)|exact HI0.1)) qB49 (by decide)) hk (fun _ h=>h.2)) (fun _ h=>h.1));have n1_:=qAm (KeepBut.trans qB18 hk (.inl rfl));have n2_:=qAm (hb);have n3_:=qAm (hi);clear HO_6;clear HK;clear HB;clear HI0;have HO_6:=n0_;have HK:=n1_;have HB:=n2_;have HI0:=n3_;clear n0_ n1_ n2_ n3_;(try clear hb);(try clear hb2);(try clear hk);(try clear hi);have p125:0≤(t122:Int):=of_decide_eq_true qB56;have q125:t122<(x6_1.length:Int):=of_decide_eq_true qB56;obtain⟨ad125,e125,hx125_0⟩:=Kd.at_int (Kd.R_reads' HO_6.1).2.2 t122 p125 q125;cases e125;replace p125:=eq_true p125;replace q125:=eq_true q125)|((with_reducible refine gate_callee (f:=94) rfl ?_);refine goesL_ (some 37) rfl rfl Try.func94 (by kernel_rfl) rfl #[.pointer (some ⟨g,0,none⟩),.int .i64 40] rfl qB19 ?_;(with_reducible refine(spec_l01Next.calls g s0_0 t123 t124 40 t126 t127 t128 w0 _ ?side1 ?side2 A19.1).mono ?_);(case side1=>repeat(first|(with_reducible first|exact HI0.1|apply IsS126.alloc|apply IsS126.drewN|apply IsS126.drew|apply IsS126.set_1|apply IsS126.set_2)|exact HI0.1));(case side2=>repeat(first|(with_reducible first|exact HB.1|apply below_alloc|apply pw_below_drewN|apply below_drew1|refine below_set ?_ (IsS126.ge HI0.1))|exact HB.1));rintro e w24 ⟨rfl,hi,hb,hk⟩;refine⟨_,rfl,?_⟩;have n0_:=qAm (Kd.R_mono (Kd.R_keep (IsS126.apart (show IsS126 w0 _ g s0_0 t123 t124 from by repeat(first|(with_reducible first|exact HI0.1|apply IsS126.alloc|apply IsS126.drewN|apply IsS126.drew|apply IsS126.set_1|apply IsS126.set_2)|exact HI0.1)) qB49 (by decide)) hk (fun _ h=>h.2)) (fun _ h=>h.1));have n1_:=qAm (KeepBut.trans qB18 hk (.inl rfl));have n2_:=qAm (hb);have n3_:=qAm (hi);clear HO_6;clear HK;clear HB;clear HI0;have HO_6:=n0_;have HK:=n1_;have HB:=n2_;have HI0:=n3_;clear n0_ n1_ n2_ n3_;(try clear hb);(try clear hb2);(try clear hk);(try clear hi))|((with_reducible refine gate_dst (N:=41) rfl ?_);refine Kd.R_lit (Kd.int .i64) _ 2 ?hg (N:=41) ?hd (xs:=([2,9,67,(-3)]:List Int)) (inner:=[.int .i64 2,.int .i64 9,.int .i64 67,.int .i64 (-3)]) (ok:=fun _=>True) (okp:=fun _=>True) ?hr ?hp (fun _ hk=>hk) trivial (Below.refl _ _) (Nat.le_refl _) (by simp) ?_;(case hd=>rfl);(case hg=>rfl);(case hr=>first|(go_simp;done)|(go_simp;rfl));(case hp=>exact(Reps.one (show Kd.M (Kd.int .i64) _ _ _ 2 [.int .i64 2] from rfl) (Reps.one (show Kd.M (Kd.int .i64) _ _ _ 9 [.int .i64 9] from rfl) (Reps.one (show Kd.M (Kd.int .i64) _ _ _ 67 [.int .i64 67] from rfl) (Reps.one (show Kd.M (Kd.int .i64) _ _ _ (-3) [.int .i64 (-3)] from rfl) (Reps.none _ _))))));intro v130 w25 ho26 hb hg_ hnew_;clear hg_ hnew_;(first|rw [← Ny129.1] at ho26|(simp only [Int.reduceToNat] at ho26;rw [← Ny129.1] at ho26));have n0_:=qAm (Kd.R_elder' qB49 (Kd.R_base ho26) hb);have n1_:=qAm (Kd.R_lower (Kd.R_new' ho26 (Kd.R_lt qB49)) (keep_size (w:=w) (g:=g) (row:=none) qB18));have n2_:=qAm (IsS126.below qB10 hb);have n3_:=qAm (KeepBut.trans qB18 (KeepBut.of_below hb g none) (.inl rfl));have n4_:=qAm (below_step qB11 hb);clear HO_6;clear HI0;clear HK;clear HB;have HO_6:=n0_;have HO131:=n1_;have HI0:=n2_;have HK:=n3_;have HB:=n4_;clear n0_ n1_ n2_ n3_ n4_;clear hb ho26;obtain⟨Ao27,co27,eo27⟩:=Kd.R_slice HO131.1;subst eo27)|((with_reducible refine gate_callee (f:=126) rfl ?_);refine goesL_ (some 42) rfl rfl Try.func126 (by kernel_rfl) rfl #[.pointer (some ⟨g,0,none⟩),.slice Ao27 y129.length co27] rfl qB19 ?_;(with_reducible refine(spec_l01Pick.calls g s0_0 t127 t128 _ _ y129 t132 t133 t134 w0 _ ?side1 ?side2 ?side3 ?side4 ?side5 A21.1).mono ?_);(case side1=>repeat(first|(with_reducible first|exact HI0.1|apply IsS126.alloc|apply IsS126.drewN|apply IsS126.drew|apply IsS126.set_1|apply IsS126.set_2)|exact HI0.1));(case side2=>repeat(first|(with_reducible first|exact HB.1|apply below_alloc|apply pw_below_drewN|apply below_drew1|refine below_set ?_ (IsS126.ge HI0.1))|exact HB.1));(case side3=>repeat(first|exact(Kd.R_reads' HO131.1).2.2|(with_reducible refine Kd.C_alloc ?_ _)|(with_reducible refine Kd.C_drewN ?_ _)|(with_reducible refine Kd.C_drew ?_)));(case side4=>exact(Kd.R_reads' HO131.1).2.1);(case side5=>exact far_slice (IsS126.own_ne HI0.1 HO131.1 (by decide)));rintro e w28 ⟨rfl,hi,hb,hk⟩;refine⟨_,rfl,?_⟩;have n0_:=qAm (Kd.R_mono (Kd.R_keep (IsS126.apart (show IsS126 w0 _ g s0_0 t127 t128 from by repeat(first|(with_reducible first|exact HI0.1|apply IsS126.alloc|apply IsS126.drewN|apply IsS126.drew|apply IsS126.set_1|apply IsS126.set_2)|exact HI0.1)) qB49 (by decide)) hk (fun _ h=>h.2)) (fun _ h=>h.1));have n1_:=qAm (Kd.R_mono (Kd.R_keep (IsS126.apart (show IsS126 w0 _ g s0_0 t127 t128 from by repeat(first|(with_reducible first|exact HI0.1|apply IsS126.alloc|apply IsS126.drewN|apply IsS126.drew|apply IsS126.set_1|apply IsS126.set_2)|exact HI0.1)) (by (with_reducible repeat(first|apply Kd.R_alloc|apply Kd.R_drewN|apply Kd.R_drew));exact HO131.1) (by decide)) hk (fun _ h=>h.2)) (fun _ h=>h.1));have n2_:=qAm (KeepBut.trans qB18 hk (.inl rfl));have n3_:=qAm (hb);have n4_:=qAm (hi);clear HO_6;clear HO131;clear HK;clear HB;clear HI0;have HO_6:=n0_;have HO131:=n1_;have HK:=n2_;have HB:=n3_;have HI0:=n4_;clear n0_ n1_ n2_ n3_ n4_;(try clear hb);(try clear hb2);(try clear hk);(try clear hi)));go_ret2;exact⟨by first|rfl|(simp [errW_none,errW_some] <;> rfl)|(simp [*,errW_none,errW_some] <;> rfl),by repeat(first|(with_reducible first|exact HI0.1|apply IsS126.alloc|apply IsS126.drewN|apply IsS126.drew|apply IsS126.set_1|apply IsS126.set_2)|exact HI0.1),by repeat(first|(with_reducible first|exact HB.1|apply below_alloc|apply pw_below_drewN|apply below_drew1|refine below_set ?_ (IsS126.ge HI0.1))|exact HB.1),by repeat(first|(with_reducible first|exact HK.1|apply KeepBut.set_|apply keep_drewN|apply keep_drew|apply keep_alloc)|exact HK.1)⟩
                · rw [if_neg c20] at H
                  have c20b0:(t126==0)=false:=beq_eq_false_iff_ne.mpr c20;have c20b1:(t126 !=0)=true:=bne_iff_ne.mpr c20
                  by_cases c29:t126=1
                  · rw [if_pos c29] at H
                    have c29b0:(t126==1)=true:=beq_iff_eq.mpr c29;have c29b1:(t126 !=1)=false:=bne_eq_false_iff_eq.mpr c29;clear c29;obtain⟨y135,hy135⟩:∃y_:List Int,y_=(([0,13,wrap64 ((rd x6_1 t122)+1)]:List Int)):=⟨_,rfl⟩
                    replace H:((spec_l01Pick.f s0_0 t127 t128 y135).bind fun bt138=>(some ((rd t109 t112),bt138.1,bt138.2.1,bt138.2.2)))=some (r1,r2,r3,r4):=by first|(rw [hy135];with_reducible exact H)|(have H2_:=(Option.bind_some _ _).symm.trans H;rw [hy135];with_reducible exact H2_)|(have H2_:=(Option.bind_some _ _).symm.trans H;with_reducible exact H2_)|with_reducible exact H|(rw [hy135];exact H)|exact H
                    have Ny135:=qAm hy135;clear hy135;replace H:=qOb H;obtain⟨⟨t138,t139,t140⟩,A300,H⟩:=H;replace H:(some ((rd t109 t112),t138,t139,t140))=some (r1,r2,r3,r4):=H;have A30:=qAm A300;clear A300;simp only [Option.some.injEq,Prod.mk.injEq] at H;obtain⟨rfl,rfl,rfl,rfl⟩:=H;obtain⟨Ao31,co31,eo31⟩:=Kd.R_slice HO_6.1;subst eo31;go_wp2_with (first|((with_reducible refine gate_callee (f:=94) rfl ?_);refine goesL_ (some 33) rfl rfl Try.func94 (by kernel_rfl) rfl #[.pointer (some ⟨g,0,none⟩),.int .i64 (x6_1.length:Int)] rfl qB19 ?_;(with_reducible refine(spec_l01Next.calls g s0_0 t113 t114 (x6_1.length:Int) t122 t123 t124 w0 _ ?side1 ?side2 A16.1).mono ?_);(case side1=>repeat(first|(with_reducible first|exact HI0.1|apply IsS126.alloc|apply IsS126.drewN|apply IsS126.drew|apply IsS126.set_1|apply IsS126.set_2)|exact HI0.1));(case side2=>repeat(first|(with_reducible first|exact HB.1|apply below_alloc|apply pw_below_drewN|apply below_drew1|refine below_set ?_ (IsS126.ge HI0.1))|exact HB.1));rintro e w32 ⟨rfl,hi,hb,hk⟩;refine⟨_,rfl,?_⟩;have n0_:=qAm (Kd.R_mono (Kd.R_keep (IsS126.apart (show IsS126 w0 _ g s0_0 t113 t114 from by repeat(first|(with_reducible first|exact HI0.1|apply IsS126.alloc|apply IsS126.drewN|apply IsS126.drew|apply IsS126.set_1|apply IsS126.set_2)|exact HI0.1)) qB49 (by decide)) hk (fun _ h=>h.2)) (fun _ h=>h.1));have n1_:=qAm (KeepBut.trans qB18 hk (.inl rfl));have n2_:=qAm (hb);have n3_:=qAm (hi);clear HO_6;clear HK;clear HB;clear HI0;have HO_6:=n0_;have HK:=n1_;have HB:=n2_;have HI0:=n3_;clear n0_ n1_ n2_ n3_;(try clear hb);(try clear hb2);(try clear hk);(try clear hi);have p125:0≤(t122:Int):=of_decide_eq_true qB56;have q125:t122<(x6_1.length:Int):=of_decide_eq_true qB56;obtain⟨ad125,e125,hx125_0⟩:=Kd.at_int (Kd.R_reads' HO_6.1).2.2 t122 p125 q125;cases e125;replace p125:=eq_true p125;replace q125:=eq_true q125)|((with_reducible refine gate_callee (f:=94) rfl ?_);refine goesL_ (some 37) rfl rfl Try.func94 (by kernel_rfl) rfl #[.pointer (some ⟨g,0,none⟩),.int .i64 40] rfl qB19 ?_;(with_reducible refine(spec_l01Next.calls g s0_0 t123 t124 40 t126 t127 t128 w0 _ ?side1 ?side2 A19.1).mono ?_);(case side1=>repeat(first|(with_reducible first|exact HI0.1|apply IsS126.alloc|apply IsS126.drewN|apply IsS126.drew|apply IsS126.set_1|apply IsS126.set_2)|exact HI0.1));(case side2=>repeat(first|(with_reducible first|exact HB.1|apply below_alloc|apply pw_below_drewN|apply below_drew1|refine below_set ?_ (IsS126.ge HI0.1))|exact HB.1));rintro e w33 ⟨rfl,hi,hb,hk⟩;refine⟨_,rfl,?_⟩;have n0_:=qAm (Kd.R_mono (Kd.R_keep (IsS126.apart (show IsS126 w0 _ g s0_0 t123 t124 from by repeat(first|(with_reducible first|exact HI0.1|apply IsS126.alloc|apply IsS126.drewN|apply IsS126.drew|apply IsS126.set_1|apply IsS126.set_2)|exact HI0.1)) qB49 (by decide)) hk (fun _ h=>h.2)) (fun _ h=>h.1));have n1_:=qAm (KeepBut.trans qB18 hk (.inl rfl));have n2_:=qAm (hb);have n3_:=qAm (hi);clear HO_6;clear HK;clear HB;clear HI0;have HO_6:=n0_;have HK:=n1_;have HB:=n2_;have HI0:=n3_;clear n0_ n1_ n2_ n3_;(try clear hb);(try clear hb2);(try clear hk);(try clear hi))|((with_reducible refine gate_dst (N:=48) rfl ?_);refine Kd.R_lit (Kd.int .i64) _ 2 ?hg (N:=48) ?hd (xs:=([0,13,wrap64 ((rd x6_1 t122)+1)]:List Int)) (inner:=[.int .i64 0,.int .i64 13,.int .i64 (wrap64 ((rd x6_1 t122)+1))]) (ok:=fun _=>True) (okp:=fun _=>True) ?hr ?hp (fun _ hk=>hk) trivial (Below.refl _ _) (Nat.le_refl _) (by simp) ?_;(case hd=>rfl);(case hg=>rfl);(case hr=>first|(go_simp;done)|(go_simp;rfl));(case hp=>exact(Reps.one (show Kd.M (Kd.int .i64) _ _ _ 0 [.int .i64 0] from rfl) (Reps.one (show Kd.M (Kd.int .i64) _ _ _ 13 [.int .i64 13] from rfl) (Reps.one (show Kd.M (Kd.int .i64) _ _ _ (wrap64 ((rd x6_1 t122)+1)) [.int .i64 (wrap64 ((rd x6_1 t122)+1))] from rfl) (Reps.none _ _)))));intro v136 w34 ho35 hb hg_ hnew_;clear hg_ hnew_;(first|rw [← Ny135.1] at ho35|(simp only [Int.reduceToNat] at ho35;rw [← Ny135.1] at ho35));have n0_:=qAm (Kd.R_elder' qB49 (Kd.R_base ho35) hb);have n1_:=qAm (Kd.R_lower (Kd.R_new' ho35 (Kd.R_lt qB49)) (keep_size (w:=w) (g:=g) (row:=none) qB18));have n2_:=qAm (IsS126.below qB10 hb);have n3_:=qAm (KeepBut.trans qB18 (KeepBut.of_below hb g none) (.inl rfl));have n4_:=qAm (below_step qB11 hb);clear HO_6;clear HI0;clear HK;clear HB;have HO_6:=n0_;have HO137:=n1_;have HI0:=n2_;have HK:=n3_;have HB:=n4_;clear n0_ n1_ n2_ n3_ n4_;clear hb ho35;obtain⟨Ao36,co36,eo36⟩:=Kd.R_slice HO137.1;subst eo36)|((with_reducible refine gate_callee (f:=126) rfl ?_);refine goesL_ (some 49) rfl rfl Try.func126 (by kernel_rfl) rfl #[.pointer (some ⟨g,0,none⟩),.slice Ao36 y135.length co36] rfl qB19 ?_;(with_reducible refine(spec_l01Pick.calls g s0_0 t127 t128 _ _ y135 t138 t139 t140 w0 _ ?side1 ?side2 ?side3 ?side4 ?side5 A30.1).mono ?_);(case side1=>repeat(first|(with_reducible first|exact HI0.1|apply IsS126.alloc|apply IsS126.drewN|apply IsS126.drew|apply IsS126.set_1|apply IsS126.set_2)|exact HI0.1));(case side2=>repeat(first|(with_reducible first|exact HB.1|apply below_alloc|apply pw_below_drewN|apply below_drew1|refine below_set ?_ (IsS126.ge HI0.1))|exact HB.1));(case side3=>repeat(first|exact(Kd.R_reads' HO137.1).2.2|(with_reducible refine Kd.C_alloc ?_ _)|(with_reducible refine Kd.C_drewN ?_ _)|(with_reducible refine Kd.C_drew ?_)));(case side4=>exact(Kd.R_reads' HO137.1).2.1);(case side5=>exact far_slice (IsS126.own_ne HI0.1 HO137.1 (by decide)));rintro e w37 ⟨rfl,hi,hb,hk⟩;refine⟨_,rfl,?_⟩;have n0_:=qAm (Kd.R_mono (Kd.R_keep (IsS126.apart (show IsS126 w0 _ g s0_0 t127 t128 from by repeat(first|(with_reducible first|exact HI0.1|apply IsS126.alloc|apply IsS126.drewN|apply IsS126.drew|apply IsS126.set_1|apply IsS126.set_2)|exact HI0.1)) qB49 (by decide)) hk (fun _ h=>h.2)) (fun _ h=>h.1));have n1_:=qAm (Kd.R_mono (Kd.R_keep (IsS126.apart (show IsS126 w0 _ g s0_0 t127 t128 from by repeat(first|(with_reducible first|exact HI0.1|apply IsS126.alloc|apply IsS126.drewN|apply IsS126.drew|apply IsS126.set_1|apply IsS126.set_2)|exact HI0.1)) (by (with_reducible repeat(first|apply Kd.R_alloc|apply Kd.R_drewN|apply Kd.R_drew));exact HO137.1) (by decide)) hk (fun _ h=>h.2)) (fun _ h=>h.1));have n2_:=qAm (KeepBut.trans qB18 hk (.inl rfl));have n3_:=qAm (hb);have n4_:=qAm (hi);clear HO_6;clear HO137;clear HK;clear HB;clear HI0;have HO_6:=n0_;have HO137:=n1_;have HK:=n2_;have HB:=n3_;have HI0:=n4_;clear n0_ n1_ n2_ n3_ n4_;(try clear hb);(try clear hb2);(try clear hk);(try clear hi)));go_ret2;exact⟨by first|rfl|(simp [errW_none,errW_some] <;> rfl)|(simp [*,errW_none,errW_some] <;> rfl),by repeat(first|(with_reducible first|exact HI0.1|apply IsS126.alloc|apply IsS126.drewN|apply IsS126.drew|apply IsS126.set_1|apply IsS126.set_2)|exact HI0.1),by repeat(first|(with_reducible first|exact HB.1|apply below_alloc|apply pw_below_drewN|apply below_drew1|refine below_set ?_ (IsS126.ge HI0.1))|exact HB.1),by repeat(first|(with_reducible first|exact HK.1|apply KeepBut.set_|apply keep_drewN|apply keep_drew|apply keep_alloc)|exact HK.1)⟩
                  · rw [if_neg c29] at H
                    have c29b0:(t126==1)=false:=beq_eq_false_iff_ne.mpr c29;have c29b1:(t126 !=1)=true:=bne_iff_ne.mpr c29;simp only [Option.some.injEq,Prod.mk.injEq] at H;obtain⟨rfl,rfl,rfl,rfl⟩:=H;obtain⟨Ao38,co38,eo38⟩:=Kd.R_slice HO_6.1;subst eo38;go_wp2_with (first|((with_reducible refine gate_callee (f:=94) rfl ?_);refine goesL_ (some 33) rfl rfl Try.func94 (by kernel_rfl) rfl #[.pointer (some ⟨g,0,none⟩),.int .i64 (x6_1.length:Int)] rfl qB19 ?_;(with_reducible refine(spec_l01Next.calls g s0_0 t113 t114 (x6_1.length:Int) t122 t123 t124 w0 _ ?side1 ?side2 A16.1).mono ?_);(case side1=>repeat(first|(with_reducible first|exact HI0.1|apply IsS126.alloc|apply IsS126.drewN|apply IsS126.drew|apply IsS126.set_1|apply IsS126.set_2)|exact HI0.1));(case side2=>repeat(first|(with_reducible first|exact HB.1|apply below_alloc|apply pw_below_drewN|apply below_drew1|refine below_set ?_ (IsS126.ge HI0.1))|exact HB.1));rintro e w39 ⟨rfl,hi,hb,hk⟩;refine⟨_,rfl,?_⟩;have n0_:=qAm (Kd.R_mono (Kd.R_keep (IsS126.apart (show IsS126 w0 _ g s0_0 t113 t114 from by repeat(first|(with_reducible first|exact HI0.1|apply IsS126.alloc|apply IsS126.drewN|apply IsS126.drew|apply IsS126.set_1|apply IsS126.set_2)|exact HI0.1)) qB49 (by decide)) hk (fun _ h=>h.2)) (fun _ h=>h.1));have n1_:=qAm (KeepBut.trans qB18 hk (.inl rfl));have n2_:=qAm (hb);have n3_:=qAm (hi);clear HO_6;clear HK;clear HB;clear HI0;have HO_6:=n0_;have HK:=n1_;have HB:=n2_;have HI0:=n3_;clear n0_ n1_ n2_ n3_;(try clear hb);(try clear hb2);(try clear hk);(try clear hi);have p125:0≤(t122:Int):=of_decide_eq_true qB56;have q125:t122<(x6_1.length:Int):=of_decide_eq_true qB56;obtain⟨ad125,e125,hx125_0⟩:=Kd.at_int (Kd.R_reads' HO_6.1).2.2 t122 p125 q125;cases e125;replace p125:=eq_true p125;replace q125:=eq_true q125)|((with_reducible refine gate_callee (f:=94) rfl ?_);refine goesL_ (some 37) rfl rfl Try.func94 (by kernel_rfl) rfl #[.pointer (some ⟨g,0,none⟩),.int .i64 40] rfl qB19 ?_;(with_reducible refine(spec_l01Next.calls g s0_0 t123 t124 40 t126 t127 t128 w0 _ ?side1 ?side2 A19.1).mono ?_);(case side1=>repeat(first|(with_reducible first|exact HI0.1|apply IsS126.alloc|apply IsS126.drewN|apply IsS126.drew|apply IsS126.set_1|apply IsS126.set_2)|exact HI0.1));(case side2=>repeat(first|(with_reducible first|exact HB.1|apply below_alloc|apply pw_below_drewN|apply below_drew1|refine below_set ?_ (IsS126.ge HI0.1))|exact HB.1));rintro e w40 ⟨rfl,hi,hb,hk⟩;refine⟨_,rfl,?_⟩;have n0_:=qAm (Kd.R_mono (Kd.R_keep (IsS126.apart (show IsS126 w0 _ g s0_0 t123 t124 from by repeat(first|(with_reducible first|exact HI0.1|apply IsS126.alloc|apply IsS126.drewN|apply IsS126.drew|apply IsS126.set_1|apply IsS126.set_2)|exact HI0.1)) qB49 (by decide)) hk (fun _ h=>h.2)) (fun _ h=>h.1));have n1_:=qAm (KeepBut.trans qB18 hk (.inl rfl));have n2_:=qAm (hb);have n3_:=qAm (hi);clear HO_6;clear HK;clear HB;clear HI0;have HO_6:=n0_;have HK:=n1_;have HB:=n2_;have HI0:=n3_;clear n0_ n1_ n2_ n3_;(try clear hb);(try clear hb2);(try clear hk);(try clear hi)));go_ret2;exact⟨by first|rfl|(simp [errW_none,errW_some] <;> rfl)|(simp [*,errW_none,errW_some] <;> rfl),by repeat(first|(with_reducible first|exact HI0.1|apply IsS126.alloc|apply IsS126.drewN|apply IsS126.drew|apply IsS126.set_1|apply IsS126.set_2)|exact HI0.1),by repeat(first|(with_reducible first|exact HB.1|apply below_alloc|apply pw_below_drewN|apply below_drew1|refine below_set ?_ (IsS126.ge HI0.1))|exact HB.1),by repeat(first|(with_reducible first|exact HK.1|apply KeepBut.set_|apply keep_drewN|apply keep_drew|apply keep_alloc)|exact HK.1)⟩
              · rw [if_neg c18] at H
                exact absurd H (by simp)
            · rw [if_neg c17] at H
              exact absurd H (by simp)
    · rw [if_neg c5] at H
      exact absurd H (by simp)
  · rw [if_neg c4] at H
    exact absurd H (by simp)

/-! ### spec_l01From: function 91 -/
def spec_l01From.l0:Nat→List Int→Int→List Int→Int→Int→Option (List Int×Int×Int)
  |0,_,_,_,_,_=>none
  |k+1,x0,x4,x142000,x142001,x142002=>if x4<(x0.length:Int) then (if x4<4096 then (if 0≤x4 then (spec_l01From.l0 k x0 (wrap64 (x4+1)) x142000 x142001 (IntKind.u64.wrap ((IntKind.u64.wrap ((IntKind.u64.wrap (x142002*1099511628211))+(IntKind.u64.wrap (rd x0 x4))))+131))) else (none)) else (some (x142000,x142001,x142002))) else (some (x142000,x142001,x142002))
def spec_l01From.f (k:Nat) (l0:List Int):Option (List Int×Int×Int):=spec_l01From.l0 k l0 0 l0 0 (IntKind.u64.wrap (13131+(IntKind.u64.wrap ((l0.length:Int)))))
theorem spec_l01From.mono_l:∀k,(∀y0 y1 y2 y3 y4,LeO (spec_l01From.l0 k y0 y1 y2 y3 y4) (spec_l01From.l0 (k+1) y0 y1 y2 y3 y4))
  |0=>fun _ _ _ _ _ r h=>by simp [spec_l01From.l0] at h
  |k+1=>by
    have ih0:=spec_l01From.mono_l k
    · intro y0 y1 y2 y3 y4
      unfold spec_l01From.l0;repeat' first
      |(with_reducible exact ih0 _ _ _ _ _)
      |(with_reducible exact LeO.refl _)
      |(with_reducible exact LeO.none _)
      |(with_reducible refine LeO.ite ?_ ?_)
      |(with_reducible refine LeO.bind ?_ (fun _=>?_))
      |exact ih0 _ _ _ _ _
      |exact LeO.none _
      |refine LeO.ite ?_ ?_
      |refine LeO.bind ?_ (fun _=>?_)
theorem spec_l01From.mono:∀a0 k,LeO (spec_l01From.f k a0) (spec_l01From.f (k+1) a0):=by
  intro a0 k;have ih0:=spec_l01From.mono_l k;unfold spec_l01From.f;repeat' first
      |(with_reducible exact ih0 _ _ _ _ _)
      |(with_reducible exact LeO.refl _)
      |(with_reducible exact LeO.none _)
      |(with_reducible refine LeO.ite ?_ ?_)
      |(with_reducible refine LeO.bind ?_ (fun _=>?_))
      |exact ih0 _ _ _ _ _
      |exact LeO.none _
      |refine LeO.ite ?_ ?_
      |refine LeO.bind ?_ (fun _=>?_)
def spec_l01From.T5:Bool×List (List Nat×List Nat):=(true,[([],[]),([],[]),([1],[1]),([2],[2]),([3],[3]),([4],[4]),([],[]),([],[]),([6,7],[6,7]),([8],[8]),([9],[9]),([5,10],[5,10]),([11],[11]),([0,0,1,2,3,4,5,6,7,8,9,10,11,12],[0]),([13,0,1,2,3,4,5,6,7,8,9,10,11,12],[13]),([14,12,0,1,2,3,4,5,6,7,8,9,10,11,12],[12,14])])
def spec_l01From.B5:List Nat:=[0,0,2,6,14,30,0,0,192,448,960,2046,4094,8191,16383,32767]
theorem spec_l01From.tab5:rtab .any (opsOf Try.f91 5)=spec_l01From.T5:=by kernel_rfl
theorem spec_l01From.bits5:waitsOk spec_l01From.T5.2 spec_l01From.B5=true:=by kernel_rfl
set_option maxHeartbeats 8000000 in
set_option maxRecDepth 100000 in
theorem spec_l01From.calls (k:Nat) (A0:Option Addr) (c0:Nat) (l0:List Int) (r1:List Int) (r2:Int) (r3:Int) (w0 w:World) (hB:Below w0.heap.size w0 w) (hr0:Kd.C (Kd.int .u8) w0 A0 l0.length l0) (hc0:l0.length≤c0) (h:spec_l01From.f k l0=some (r1,r2,r3)):
    Calls Try.prog 91 #[.slice A0 l0.length c0] w fun e w'=>∃g_:Nat,e=.returned (.pointer (some ⟨g_,0,none⟩))∧IsS126 w0 w' g_ r1 r2 r3∧Below w0.heap.size w0 w'∧Below w.heap.size w w':=by
  have hu126:=Try.underlying126;have HR0:=qAm hr0;have HC0:=qAm hc0;clear hr0 hc0;have HBW:=qAm (Below.refl w.heap.size w);have HW0:=qAm hB.size;have HB:=qAm hB;clear hB;have H:(spec_l01From.l0 k l0 0 l0 0 (IntKind.u64.wrap (13131+(IntKind.u64.wrap ((l0.length:Int))))))=some (r1,r2,r3):=h;clear h;have H':=qAm H;clear H;go_enter Try.func91,Try.ntmps91;go_wp2_with (first|((with_reducible refine gate_dst (N:=11) rfl ?_);refine box_event ?hg (N:=11) ?hd (cs:=#[.slice A0 l0.length c0,.int .i64 0,.int .u64 (IntKind.u64.wrap (13131+(IntKind.u64.wrap ((l0.length:Int)))))]) (t:=126) ?hr ?_;(case hd=>rfl);(case hg=>rfl);(case hr=>first|(go_simp;done)|(go_simp;rfl));intro gb141 hg w2 hbox hb;have n0_:=qAm (below_step HBW.1 hb);have n1_:=qAm (below_step qB23 hb);have n2_:=qAm (hbox);have n3_:=qAm ((by rw [hg];exact(below_size qB20):w.heap.size≤gb141));have n4_:=qAm ((Nat.le_trans HW0.1 (by rw [hg];exact(below_size qB20):w.heap.size≤gb141):w0.heap.size≤gb141));clear HBW;clear HB;have HBW:=n0_;have HB:=n1_;have BK141:=n2_;have GW141:=n3_;have GE141:=n4_;clear n0_ n1_ n2_ n3_ n4_;clear hb hbox hg));try simp only [Act.put,qSa,qSc,qSb]
  go_loopg [4] k (fun kq v4 w'=>∃(x4_1:Int) (x142002_1:Int),v4=.int .i64 x4_1∧Aside0 (spec_l01From.l0 kq l0 x4_1 l0 0 x142002_1=some (r1,r2,r3))∧Aside0 (kq≤k)∧Aside0 (w'.heap[gb141]? =some (.cells #[(.slice A0 l0.length c0),.int .i64 0,.int .u64 x142002_1] 126 (0,0)))∧Aside0 (Below w0.heap.size w0 w')∧Aside0 (Below w.heap.size w w'))
  case atStart=>exact⟨(0),(IntKind.u64.wrap (13131+(IntKind.u64.wrap ((l0.length:Int))))),qB57,H',⟨Nat.le_refl _⟩,⟨by (with_reducible repeat(first|refine blk_drewN ?_ _|refine blk_drew ?_|refine blk_alloc ?_ _));exact BK141.1⟩,⟨by repeat(first|(with_reducible first|exact HB.1|apply below_alloc|apply pw_below_drewN|apply below_drew1|refine below_set ?_ GE141.1)|exact HB.1)⟩,⟨by repeat(first|(with_reducible first|exact HBW.1|apply below_alloc|apply pw_below_drewN|apply below_drew1|refine below_set ?_ GW141.1)|exact HBW.1)⟩⟩
  case round=>
    clear H';try clear p2
    obtain⟨x4_1,x142002_1,rfl,HA,HK1,BK141,HB,HBW⟩:=hrel;cases gk with
    |zero=>exact absurd HA.1 (by simp [spec_l01From.l0])
    |succ k1=>
      have H:=HA.1;clear HA;simp only [spec_l01From.l0] at H
      by_cases c3:x4_1<(l0.length:Int)
      · rw [if_pos c3] at H
        have c3b0:decide (x4_1<(l0.length:Int))=true:=decide_eq_true c3;clear c3
        by_cases c4:x4_1<4096
        · rw [if_pos c4] at H
          have c4b0:decide (x4_1<4096)=true:=decide_eq_true c4;clear c4
          by_cases c5:0≤x4_1
          · rw [if_pos c5] at H
            have c5b0:decide (0≤x4_1)=true:=decide_eq_true c5;clear c5;have H':=qAm H;clear H;try go_wp2
            have n0_:=qAm (blk_drew BK141.1);have n1_:=qAm (below_drew1 HB.1);have HBW:=qAm (below_drew1 HBW.1);clear BK141 HB;have BK141:=n0_;have HB:=n1_;clear n0_ n1_;have p142:0≤(x4_1:Int):=of_decide_eq_true qB56;have q142:x4_1<(l0.length:Int):=of_decide_eq_true qB56;obtain⟨ad142,e142,hx142_0⟩:=Kd.at_int HR0.1 x4_1 p142 q142;have hw142_0:=hx142_0;cases e142
            replace hx142_0:=pw_cell_below HB.1 hx142_0;replace p142:=eq_true p142;replace q142:=eq_true q142;refine start_ (n:=16) (S:=fun w'=>w'.cell? ⟨gb141,0,none⟩=some (.slice (some ad142) l0.length c0)∧w'.cell? ⟨gb141,1,none⟩=some (.int .i64 0)∧w'.cell? ⟨gb141,2,none⟩=some (.int .u64 x142002_1)∧w'.cell? (ad142.add (x4_1).toNat)=some (.int .u8 (rd l0 x4_1))) (ds:=[15]) #[false,false,false,false,false,false,false,false,false,false,false,false,false,false,false,false] (by kernel_rfl) rfl rfl ⟨(blk_cell BK141.1 0).trans rfl,(blk_cell BK141.1 1).trans rfl,(blk_cell BK141.1 2).trans rfl,((HB.1.cell (World.block_lt_of_cell? _ _ hw142_0)).trans hw142_0)⟩ (fun hHeld=>?_);refine with_tabW spec_l01From.tab5 spec_l01From.bits5 (fun HT_ HW_=>?_);generalize wr.drew=w6 at BK141 HB HBW hx142_0 hHeld ⊢;refine pure_ (i:=0) (N:=some 22) (v:=?_) (a':=?_) #[true,false,false,false,false,false,false,false,false,false,false,false,false,false,false,false] rfl rfl (any_of HT_.1 (by kernel_rfl)) (fun _ _ _ h=>h) (Or.inl ⟨by rfl,?_⟩) ?_ ?_;rotate_left
            · intro w'
              go_simp;with_reducible rfl
            rotate_left
            · simp only [Act.put,qSa,qSb,qSc,i64_w,i32_w]
              rfl
            refine pure_ (i:=1) (N:=some 23) (v:=?_) (a':=?_) #[true,true,false,false,false,false,false,false,false,false,false,false,false,false,false,false] rfl rfl (any_of HT_.1 (by kernel_rfl)) (fun _ _ _ h=>h) (Or.inl ⟨by rfl,?_⟩) ?_ ?_;rotate_left
            · intro w'
              go_simp;with_reducible rfl
            rotate_left
            · simp only [Act.put,qSa,qSb,qSc,i64_w,i32_w]
              rfl
            refine pure_ (i:=2) (N:=some 24) (v:=?_) (a':=?_) #[true,true,true,false,false,false,false,false,false,false,false,false,false,false,false,false] rfl rfl (any_of HT_.1 (by kernel_rfl)) (fun _ _ _ h=>h) (Or.inl ⟨by rfl,?_⟩) ?_ ?_;rotate_left
            · intro w'
              go_simp;with_reducible rfl
            rotate_left
            · simp only [Act.put,qSa,qSb,qSc,i64_w,i32_w]
              rfl
            refine pure_ (i:=3) (N:=some 25) (v:=?_) (a':=?_) #[true,true,true,true,false,false,false,false,false,false,false,false,false,false,false,false] rfl rfl (any_of HT_.1 (by kernel_rfl)) (fun _ _ _ h=>h) (Or.inl ⟨by rfl,?_⟩) ?_ ?_;rotate_left
            · intro w'
              go_simp;with_reducible rfl
            rotate_left
            · simp only [Act.put,qSa,qSb,qSc,i64_w,i32_w]
              rfl
            refine pure_ (i:=6) (N:=some 28) (v:=?_) (a':=?_) #[true,true,true,true,false,false,true,false,false,false,false,false,false,false,false,false] rfl rfl (any_of HT_.1 (by kernel_rfl)) (fun _ _ _ h=>h) (Or.inl ⟨by rfl,?_⟩) ?_ ?_;rotate_left
            · intro w'
              go_simp;with_reducible rfl
            rotate_left
            · simp only [Act.put,qSa,qSb,qSc,i64_w,i32_w]
              rfl
            refine pure_ (i:=7) (N:=some 29) (v:=?_) (a':=?_) #[true,true,true,true,false,false,true,true,false,false,false,false,false,false,false,false] rfl rfl (any_of HT_.1 (by kernel_rfl)) (fun _ _ _ h=>h) (Or.inl ⟨by rfl,?_⟩) ?_ ?_;rotate_left
            · intro w'
              go_simp;with_reducible rfl
            rotate_left
            · simp only [Act.put,qSa,qSb,qSc,i64_w,i32_w]
              rfl
            refine pure_ (i:=8) (N:=some 30) (v:=?_) (a':=?_) #[true,true,true,true,false,false,true,true,true,false,false,false,false,false,false,false] rfl rfl (any_of HT_.1 (by kernel_rfl)) (fun _ _ _ h=>h) (Or.inl ⟨by rfl,?_⟩) ?_ ?_;rotate_left
            · intro w'
              go_simp;with_reducible rfl
            rotate_left
            · simp only [Act.put,qSa,qSb,qSc,i64_w,i32_w]
              rfl
            refine take_ (i:=4) (N:=some 26) (v:=?_) (a':=?_) #[true,true,true,true,true,false,true,true,true,false,false,false,false,false,false,false] rfl rfl (take_ofW HT_.1 HW_.1 (by kernel_rfl)) (fun _ _ _ h=>h) (Or.inl ⟨by rfl,?_⟩) hHeld ?_ ?_;rotate_left
            · rintro w' ⟨s0,s1,s2,s3⟩
              go_simp;with_reducible rfl
            rotate_left
            · simp only [Act.put,qSa,qSb,qSc,i64_w,i32_w]
              rfl
            refine pure_ (i:=5) (N:=some 27) (v:=?_) (a':=?_) #[true,true,true,true,true,true,true,true,true,false,false,false,false,false,false,false] rfl rfl (any_of HT_.1 (by kernel_rfl)) (fun _ _ _ h=>h) (Or.inl ⟨by rfl,?_⟩) ?_ ?_;rotate_left
            · intro w'
              go_simp;with_reducible rfl
            rotate_left
            · simp only [Act.put,qSa,qSb,qSc,i64_w,i32_w]
              rfl
            refine take_ (i:=9) (N:=some 31) (v:=?_) (a':=?_) #[true,true,true,true,true,true,true,true,true,true,false,false,false,false,false,false] rfl rfl (take_ofW HT_.1 HW_.1 (by kernel_rfl)) (fun _ _ _ h=>h) (Or.inl ⟨by rfl,?_⟩) hHeld ?_ ?_;rotate_left
            · rintro w' ⟨s0,s1,s2,s3⟩
              go_simp;with_reducible rfl
            rotate_left
            · simp only [Act.put,qSa,qSb,qSc,i64_w,i32_w]
              rfl
            refine pure_ (i:=10) (N:=some 32) (v:=?_) (a':=?_) #[true,true,true,true,true,true,true,true,true,true,true,false,false,false,false,false] rfl rfl (any_of HT_.1 (by kernel_rfl)) (fun _ _ _ h=>h) (Or.inl ⟨by rfl,?_⟩) ?_ ?_;rotate_left
            · intro w'
              go_simp;with_reducible rfl
            rotate_left
            · simp only [Act.put,qSa,qSb,qSc,i64_w,i32_w]
              rfl
            refine pure_ (i:=11) (N:=some 33) (v:=?_) (a':=?_) #[true,true,true,true,true,true,true,true,true,true,true,true,false,false,false,false] rfl rfl (any_of HT_.1 (by kernel_rfl)) (fun _ _ _ h=>h) (Or.inl ⟨by rfl,?_⟩) ?_ ?_;rotate_left
            · intro w'
              go_simp;with_reducible rfl
            rotate_left
            · simp only [Act.put,qSa,qSb,qSc,i64_w,i32_w]
              rfl
            refine pure_ (i:=12) (N:=some 34) (v:=?_) (a':=?_) #[true,true,true,true,true,true,true,true,true,true,true,true,true,false,false,false] rfl rfl (any_of HT_.1 (by kernel_rfl)) (fun _ _ _ h=>h) (Or.inl ⟨by rfl,?_⟩) ?_ ?_;rotate_left
            · intro w'
              go_simp;with_reducible rfl
            rotate_left
            · simp only [Act.put,qSa,qSb,qSc,i64_w,i32_w]
              rfl
            refine pure_ (i:=13) (N:=some 35) (v:=?_) (a':=?_) #[true,true,true,true,true,true,true,true,true,true,true,true,true,true,false,false] rfl rfl (any_of HT_.1 (by kernel_rfl)) (fun _ _ _ h=>h) (Or.inl ⟨by rfl,?_⟩) ?_ ?_;rotate_left
            · intro w'
              go_simp;with_reducible rfl
            rotate_left
            · simp only [Act.put,qSa,qSb,qSc,i64_w,i32_w]
              rfl
            refine pure_ (i:=14) (N:=some 36) (v:=?_) (a':=?_) #[true,true,true,true,true,true,true,true,true,true,true,true,true,true,true,false] rfl rfl (any_of HT_.1 (by kernel_rfl)) (fun _ _ _ h=>h) (Or.inl ⟨by rfl,?_⟩) ?_ ?_;rotate_left
            · intro w'
              go_simp;with_reducible rfl
            rotate_left
            · simp only [Act.put,qSa,qSb,qSc,i64_w,i32_w]
              rfl
            refine last_ (i:=15) (N:=none) #[true,true,true,true,true,true,true,true,true,true,true,true,true,true,true,true] rfl rfl (one_of HT_.1 (by kernel_rfl)) (by decide) (fun K hK=>?_);have hs7:w6.cell? ⟨gb141,2,none⟩=some (.int .u64 x142002_1):=(blk_cell BK141.1 2).trans rfl;have hfs7:=blk_frozen BK141.1 2;refine skip_ (w1:=?_) (by rfl) rfl ?_ ?_;rotate_left
            · go_simp
              rfl
            refine hK.out _ _ ?_;clear hK K;refine done_ (done_of HT_.1 (by kernel_rfl)) ?_;try go_wp2
            (first|go_roundg k1|((try simp only [add_plain] at *);go_roundg k1))
            case measure=>have:=HK1.1;omega
            case rel=>exact⟨(wrap64 (x4_1+1)),(IntKind.u64.wrap ((IntKind.u64.wrap ((IntKind.u64.wrap (x142002_1*1099511628211))+(IntKind.u64.wrap (rd l0 x4_1))))+131)),qB57,H',⟨by have:=HK1.1;omega⟩,⟨by (with_reducible repeat(first|refine blk_drewN ?_ _|refine blk_drew ?_|refine blk_alloc ?_ _));refine blk_put (cs:=#[.slice (some ad142) l0.length c0,.int .i64 0,.int .u64 x142002_1]) ?_ 2 _ rfl;(with_reducible repeat(first|refine blk_drewN ?_ _|refine blk_drew ?_|refine blk_alloc ?_ _));exact BK141.1⟩,⟨by repeat(first|(with_reducible first|exact HB.1|apply below_alloc|apply pw_below_drewN|apply below_drew1|refine below_set ?_ GE141.1)|exact HB.1)⟩,⟨by repeat(first|(with_reducible first|exact HBW.1|apply below_alloc|apply pw_below_drewN|apply below_drew1|refine below_set ?_ GW141.1)|exact HBW.1)⟩⟩
          · rw [if_neg c5] at H
            exact absurd H (by simp)
        · rw [if_neg c4] at H
          have c4b0:decide (x4_1<4096)=false:=decide_eq_false c4;clear c4;simp only [Option.some.injEq,Prod.mk.injEq] at H;obtain⟨rfl,rfl,rfl⟩:=H;go_wp2;go_ret;exact⟨_,rfl,(show IsS126 w0 _ gb141 l0 0 x142002_1 from ⟨_,_,by (with_reducible repeat(first|refine blk_drewN ?_ _|refine blk_drew ?_|refine blk_alloc ?_ _));exact BK141.1,GE141.1,HR0.1⟩),by repeat(first|(with_reducible first|exact HB.1|apply below_alloc|apply pw_below_drewN|apply below_drew1|refine below_set ?_ GE141.1)|exact HB.1),by repeat(first|(with_reducible first|exact HBW.1|apply below_alloc|apply pw_below_drewN|apply below_drew1|refine below_set ?_ GW141.1)|exact HBW.1)⟩
      · rw [if_neg c3] at H
        have c3b0:decide (x4_1<(l0.length:Int))=false:=decide_eq_false c3;clear c3;simp only [Option.some.injEq,Prod.mk.injEq] at H;obtain⟨rfl,rfl,rfl⟩:=H;go_wp2;go_ret;exact⟨_,rfl,(show IsS126 w0 _ gb141 l0 0 x142002_1 from ⟨_,_,by (with_reducible repeat(first|refine blk_drewN ?_ _|refine blk_drew ?_|refine blk_alloc ?_ _));exact BK141.1,GE141.1,HR0.1⟩),by repeat(first|(with_reducible first|exact HB.1|apply below_alloc|apply pw_below_drewN|apply below_drew1|refine below_set ?_ GE141.1)|exact HB.1),by repeat(first|(with_reducible first|exact HBW.1|apply below_alloc|apply pw_below_drewN|apply below_drew1|refine below_set ?_ GW141.1)|exact HBW.1)⟩

/-! ### spec_DrawCyclotomicTable: function 33 -/
def spec_DrawCyclotomicTable.f (k:Nat) (l0:List Int):Option (Int×Int):=(spec_l01From.f k l0).bind fun bt143=>((spec_l06Draw.f k bt143.1 bt143.2.1 bt143.2.2).bind fun bt147=>(some (bt147.1,bt147.2.1)))
theorem spec_DrawCyclotomicTable.mono:∀a0 k,LeO (spec_DrawCyclotomicTable.f k a0) (spec_DrawCyclotomicTable.f (k+1) a0):=by
  intro a0 k;unfold spec_DrawCyclotomicTable.f;repeat' first
      |(with_reducible exact spec_l01From.mono _ _)
      |(with_reducible exact spec_l06Draw.mono _ _ _ _)
      |(with_reducible exact LeO.refl _)
      |(with_reducible exact LeO.none _)
      |(with_reducible refine LeO.ite ?_ ?_)
      |(with_reducible refine LeO.bind ?_ (fun _=>?_))
      |exact spec_l01From.mono _ _
      |exact spec_l06Draw.mono _ _ _ _
      |exact LeO.none _
      |refine LeO.ite ?_ ?_
      |refine LeO.bind ?_ (fun _=>?_)
set_option maxHeartbeats 8000000 in
set_option maxRecDepth 100000 in
theorem spec_DrawCyclotomicTable.calls (k:Nat) (A0:Option Addr) (c0:Nat) (l0:List Int) (r1:Int) (r2:Int) (w:World) (hr0:Kd.C (Kd.int .u8) w A0 l0.length l0) (hc0:l0.length≤c0) (h:spec_DrawCyclotomicTable.f k l0=some (r1,r2)):
    Calls Try.prog 33 #[.slice A0 l0.length c0] w fun e w'=>e=.returned (.tuple #[.int .i64 r1,.int .i64 r2])∧Below w.heap.size w w':=by
  have HR0:=qAm hr0;have HC0:=qAm hc0;clear hr0 hc0;have HB:=qAm (Below.refl w.heap.size w);have H:((spec_l01From.f k l0).bind fun bt143=>((spec_l06Draw.f k bt143.1 bt143.2.1 bt143.2.2).bind fun bt147=>(some (bt147.1,bt147.2.1))))=some (r1,r2):=h;clear h;replace H:=qOb H;obtain⟨⟨t143,t144,t145⟩,A20,H⟩:=H;replace H:((spec_l06Draw.f k t143 t144 t145).bind fun bt147=>(some (bt147.1,bt147.2.1)))=some (r1,r2):=H;have A2:=qAm A20;clear A20;replace H:=qOb H;obtain⟨⟨t147,t148,t149,t150⟩,A30,H⟩:=H;replace H:(some (t147,t148))=some (r1,r2):=H;have A3:=qAm A30;clear A30;simp only [Option.some.injEq,Prod.mk.injEq] at H;obtain⟨rfl,rfl⟩:=H;go_enter Try.func33,Try.ntmps33;go_wp2_with (first|((with_reducible refine gate_callee (f:=91) rfl ?_);refine goesL_ (some 8) rfl rfl Try.func91 (by kernel_rfl) rfl #[.slice A0 l0.length c0] rfl qB19 ?_;(with_reducible refine(spec_l01From.calls k _ _ l0 t143 t144 t145 w _ ?side1 ?side2 ?side3 A2.1).mono ?_);(case side1=>repeat(first|(with_reducible first|exact HB.1|apply below_alloc|apply pw_below_drewN|apply below_drew1)|exact HB.1));(case side2=>exact HR0.1);(case side3=>exact HC0.1);rintro e w4 ⟨g146,rfl,hi,hb,hb2⟩;refine⟨_,rfl,?_⟩;have n0_:=qAm (hb);have n1_:=qAm (hi);clear HB;have HB:=n0_;have HI146:=n1_;clear n0_ n1_;(try clear hb);(try clear hb2);(try clear hk);(try clear hi))|((with_reducible refine gate_callee (f:=90) rfl ?_);refine goesL_ (some 9) rfl rfl Try.func90 (by kernel_rfl) rfl #[.pointer (some ⟨g146,0,none⟩)] rfl qB19 ?_;(with_reducible refine(spec_l06Draw.calls k g146 t143 t144 t145 t147 t148 t149 t150 w _ ?side1 ?side2 A3.1).mono ?_);(case side1=>repeat(first|(with_reducible first|exact HI146.1|apply IsS126.alloc|apply IsS126.drewN|apply IsS126.drew|apply IsS126.set_1|apply IsS126.set_2)|exact HI146.1));(case side2=>repeat(first|(with_reducible first|exact HB.1|apply below_alloc|apply pw_below_drewN|apply below_drew1|refine below_set ?_ (IsS126.ge HI146.1))|exact HB.1));rintro e w5 ⟨rfl,hi,hb,hk⟩;refine⟨_,rfl,?_⟩;have n0_:=qAm (hb);have n1_:=qAm (hi);clear HB;clear HI146;have HB:=n0_;have HI146:=n1_;clear n0_ n1_;(try clear hb);(try clear hb2);(try clear hk);(try clear hi)));go_ret2;exact⟨by first|rfl|(simp [errW_none,errW_some] <;> rfl)|(simp [*,errW_none,errW_some] <;> rfl),by repeat(first|(with_reducible first|exact HB.1|apply below_alloc|apply pw_below_drewN|apply below_drew1|refine below_set ?_ (IsS126.ge HI146.1))|exact HB.1)⟩

/-! ### impl_within: function 87 -/
def impl_within.f (a0:Int) (a1:Int) (a2:Int):Option (Bool):=if a1≤a0 then (some (decide (a0≤a2))) else (some false)
set_option maxHeartbeats 8000000 in
set_option maxRecDepth 100000 in
theorem impl_within.calls (a0:Int) (a1:Int) (a2:Int) (r:Bool) (w:World) (h:impl_within.f a0 a1 a2=some r):
    Calls Try.prog 87 #[.int .i64 a0,.int .i64 a1,.int .i64 a2] w fun e w'=>e=.returned (.bool r)∧Drawn0 w w':=by
  have H:(if a1≤a0 then (some (decide (a0≤a2))) else (some false))=some r:=h;clear h
  by_cases c4:a1≤a0
  · rw [if_pos c4] at H
    have c4b0:decide (a1≤a0)=true:=decide_eq_true c4;clear c4;obtain rfl:=Option.some.inj H;go_enter Try.func87,Try.ntmps87;go_wp2;go_ret;exact⟨by first|rfl|(simp;done)|(simp [*];done),by repeat(first|exact Drawn0.refl _|apply Drawn0.step)⟩
  · rw [if_neg c4] at H
    have c4b0:decide (a1≤a0)=false:=decide_eq_false c4;clear c4;obtain rfl:=Option.some.inj H;go_enter Try.func87,Try.ntmps87;go_wp2;go_ret;exact⟨by first|rfl|(simp;done)|(simp [*];done),by repeat(first|exact Drawn0.refl _|apply Drawn0.step)⟩

/-! ### impl_isPrime: function 106 -/
def impl_isPrime.l0:Nat→Int→Int→Option (Bool)
  |0,_,_=>none
  |k+1,x0,x3=>if (wrap64 (x3*x3))≤x0 then (if x3=0 then (none) else (if (Int.tmod x0 x3)=0 then (some false) else (impl_isPrime.l0 k x0 (wrap64 (x3+1))))) else ((impl_within.f x0 3 61).bind fun t151=>(some t151))
def impl_isPrime.f (k:Nat) (a0:Int):Option (Bool):=impl_isPrime.l0 k a0 2
theorem impl_isPrime.mono_l:∀k,(∀y0 y1,LeO (impl_isPrime.l0 k y0 y1) (impl_isPrime.l0 (k+1) y0 y1))
  |0=>fun _ _ r h=>by simp [impl_isPrime.l0] at h
  |k+1=>by
    have ih0:=impl_isPrime.mono_l k
    · intro y0 y1
      unfold impl_isPrime.l0;repeat' first
      |(with_reducible exact ih0 _ _)
      |(with_reducible exact LeO.refl _)
      |(with_reducible exact LeO.none _)
      |(with_reducible refine LeO.ite ?_ ?_)
      |(with_reducible refine LeO.bind ?_ (fun _=>?_))
      |exact ih0 _ _
      |exact LeO.none _
      |refine LeO.ite ?_ ?_
      |refine LeO.bind ?_ (fun _=>?_)
theorem impl_isPrime.mono:∀a0 k,LeO (impl_isPrime.f k a0) (impl_isPrime.f (k+1) a0):=by
  intro a0 k;have ih0:=impl_isPrime.mono_l k;unfold impl_isPrime.f;repeat' first
      |(with_reducible exact ih0 _ _)
      |(with_reducible exact LeO.refl _)
      |(with_reducible exact LeO.none _)
      |(with_reducible refine LeO.ite ?_ ?_)
      |(with_reducible refine LeO.bind ?_ (fun _=>?_))
      |exact ih0 _ _
      |exact LeO.none _
      |refine LeO.ite ?_ ?_
      |refine LeO.bind ?_ (fun _=>?_)
set_option maxHeartbeats 8000000 in
set_option maxRecDepth 100000 in
theorem impl_isPrime.calls (k:Nat) (a0:Int) (r:Bool) (w:World) (h:impl_isPrime.f k a0=some r):
    Calls Try.prog 106 #[.int .i64 a0] w fun e w'=>e=.returned (.bool r)∧Drawn0 w w':=by
  have H:(impl_isPrime.l0 k a0 2)=some r:=h;clear h;have H':=qAm H;clear H;go_enter Try.func106,Try.ntmps106;go_wp2;try simp only [Act.put,qSa,qSc,qSb]
  go_loopg [3] k (fun kq v3 w'=>∃(x3_1:Int),v3=.int .i64 x3_1∧Aside0 (impl_isPrime.l0 kq a0 x3_1=some r)∧Aside0 (kq≤k)∧Drawn0 w w')
  case atStart=>exact⟨(2),qB57,H',⟨Nat.le_refl _⟩,by repeat(first|exact Drawn0.refl _|apply Drawn0.step)⟩
  case round=>
    clear H';try clear c1
    obtain⟨x3_1,rfl,HA,HK1,⟨m1,rfl⟩⟩:=hrel;cases gk with
    |zero=>exact absurd HA.1 (by simp [impl_isPrime.l0])
    |succ k1=>
      have H:=HA.1;clear HA;simp only [impl_isPrime.l0] at H
      by_cases c2:(wrap64 (x3_1*x3_1))≤a0
      · rw [if_pos c2] at H
        have c2b0:decide ((wrap64 (x3_1*x3_1))≤a0)=true:=decide_eq_true c2;clear c2
        by_cases c3:x3_1=0
        · rw [if_pos c3] at H
          exact absurd H (by simp)
        · rw [if_neg c3] at H
          have c3b0:(x3_1==0)=false:=beq_eq_false_iff_ne.mpr c3;have c3b1:(x3_1 !=0)=true:=bne_iff_ne.mpr c3
          by_cases c4:(Int.tmod a0 x3_1)=0
          · rw [if_pos c4] at H
            have c4b0:((Int.tmod a0 x3_1)==0)=true:=beq_iff_eq.mpr c4;have c4b1:((Int.tmod a0 x3_1) !=0)=false:=bne_eq_false_iff_eq.mpr c4;clear c4;obtain rfl:=Option.some.inj H;go_wp2;go_ret;exact⟨by first|rfl|(simp;done)|(simp [*];done),by repeat(first|exact Drawn0.refl _|apply Drawn0.step)⟩
          · rw [if_neg c4] at H
            have c4b0:((Int.tmod a0 x3_1)==0)=false:=beq_eq_false_iff_ne.mpr c4;have c4b1:((Int.tmod a0 x3_1) !=0)=true:=bne_iff_ne.mpr c4;have H':=qAm H;clear H;go_wp2
            (first|go_roundg k1|((try simp only [add_plain] at *);go_roundg k1))
            case measure=>have:=HK1.1;omega
            case rel=>exact⟨(wrap64 (x3_1+1)),qB57,H',⟨by have:=HK1.1;omega⟩,by repeat(first|exact Drawn0.refl _|apply Drawn0.step)⟩
      · rw [if_neg c2] at H
        have c2b0:decide ((wrap64 (x3_1*x3_1))≤a0)=false:=decide_eq_false c2;clear c2;replace H:=qOb H;obtain⟨t151,A50,H⟩:=H;replace H:(some t151)=some r:=H;have A5:=qAm A50;clear A50;obtain rfl:=Option.some.inj H;go_wp2_with (first|((with_reducible refine gate_callee (f:=87) rfl ?_);refine goesL_ (some 16) rfl rfl Try.func87 (by kernel_rfl) rfl #[.int .i64 a0,.int .i64 3,.int .i64 61] rfl qB19 ?_;(with_reducible refine(impl_within.calls a0 3 61 t151 _ A5.1).mono ?_);rintro e w' ⟨rfl,⟨nd,rfl⟩⟩;refine⟨_,rfl,?_⟩));go_ret;exact⟨by first|rfl|(simp;done)|(simp [*];done),by repeat(first|exact Drawn0.refl _|apply Drawn0.step)⟩

/-! ### bits_Mul32: function 144 -/
def bits_Mul32.f (a0:Int) (a1:Int):Option (Int×Int):=some (((IntKind.u64.wrap ((IntKind.u64.wrap (a0))*(IntKind.u64.wrap (a1)))) / 4294967296) % 4294967296,(IntKind.u64.wrap ((IntKind.u64.wrap (a0))*(IntKind.u64.wrap (a1)))) % 4294967296)
set_option maxHeartbeats 8000000 in
set_option maxRecDepth 100000 in
theorem bits_Mul32.calls (a0:Int) (a1:Int) (r1:Int) (r2:Int) (w:World) (h:bits_Mul32.f a0 a1=some (r1,r2)):
    Calls Try.prog 144 #[.int .u32 a0,.int .u32 a1] w fun e w'=>e=.returned (.tuple #[.int .u32 r1,.int .u32 r2])∧Drawn0 w w':=by
  have H:(some (((IntKind.u64.wrap ((IntKind.u64.wrap (a0))*(IntKind.u64.wrap (a1)))) / 4294967296) % 4294967296,(IntKind.u64.wrap ((IntKind.u64.wrap (a0))*(IntKind.u64.wrap (a1)))) % 4294967296))=some (r1,r2):=h;clear h;simp only [Option.some.injEq,Prod.mk.injEq] at H;obtain⟨rfl,rfl⟩:=H;go_enter Try.func144,Try.ntmps144;go_wp2;go_ret2;exact⟨by first|rfl|(simp;done)|(simp [*];done),by repeat(first|exact Drawn0.refl _|apply Drawn0.step)⟩

end Go.Proofs.Ytefhabkikaadiaa.PFnPeriods
