/- The functions that the law reaches, as plain functions, each with the proof that the program comes to it; no condition. Written by a program of this session (wip/mp.py) over the printing of the kit; what is marked HAND is told by hand. -/
import Derived.Test.YtefhabkikaadiaaPFnExactCycloAtResiduesx0
import Derived.Test.YtefhabkikaadiaaPFnExactCycloAtResiduesx5
namespace Go.Proofs.Ytefhabkikaadiaa.PFnExactCycloAtResidues
open Go.RowKit Go.Proofs.YtefhabkikaadiaaW.PrintWords Go.Proofs.YtefhabkikaadiaaW.PrintLast Go.Proofs.YtefhabkikaadiaaW.PrintMore
attribute [local go_sem] max2_int min2_int max_two min_two max_three min_three max_four min_four   -- for this text's walks alone
set_option linter.unusedVariables false
set_option linter.unusedSimpArgs false

/-! ### impl_splitting: function 132 -/
mutual
def impl_splitting.l0:Nat→Int→Int→Int→Option (Int×Int×Int)
  |0,_,_,_=>none
  |k+1,x1,x7,x8=>if x1=0 then (none) else (if (Int.tmod x8 x1)=0 then (impl_splitting.l0 k x1 (wrap64 (x7*x1)) (wrap64 (Int.tdiv x8 x1))) else (if x8=0 then (none) else (impl_splitting.l1 k x1 x7 x8 1 (Int.tmod x1 x8))))
def impl_splitting.l1:Nat→Int→Int→Int→Int→Int→Option (Int×Int×Int)
  |0,_,_,_,_,_=>none
  |k+1,x1,x7,x8,x9,x10=>if x8=0 then (none) else (if x10=((1:Int) % x8) then ((impl_totient.f k x7).bind fun t208=>((impl_totient.f k x8).bind fun t209=>(if x9=0 then (none) else (some (t208,x9,wrap64 (Int.tdiv t209 x9)))))) else (impl_splitting.l1 k x1 x7 x8 (wrap64 (x9+1)) (Int.tmod (wrap64 (x10*x1)) x8)))
end
def impl_splitting.f (k:Nat) (a0:Int) (a1:Int):Option (Int×Int×Int):=impl_splitting.l0 k a1 1 a0
theorem impl_splitting.mono_l:∀k,(∀y0 y1 y2,LeO (impl_splitting.l0 k y0 y1 y2) (impl_splitting.l0 (k+1) y0 y1 y2))∧(∀y0 y1 y2 y3 y4,LeO (impl_splitting.l1 k y0 y1 y2 y3 y4) (impl_splitting.l1 (k+1) y0 y1 y2 y3 y4))
  |0=>⟨fun _ _ _ r h=>by simp [impl_splitting.l0] at h,fun _ _ _ _ _ r h=>by simp [impl_splitting.l1] at h⟩
  |k+1=>by
    obtain⟨ih0,ih1⟩:=impl_splitting.mono_l k;refine⟨?_,?_⟩
    · intro y0 y1 y2
      unfold impl_splitting.l0;repeat' first
      |(with_reducible exact ih0 _ _ _)
      |(with_reducible exact ih1 _ _ _ _ _)
      |(with_reducible exact impl_totient.mono _ _)
      |(with_reducible exact LeO.refl _)
      |(with_reducible exact LeO.none _)
      |(with_reducible refine LeO.ite ?_ ?_)
      |(with_reducible refine LeO.bind ?_ (fun _=>?_))
      |exact ih0 _ _ _
      |exact ih1 _ _ _ _ _
      |exact impl_totient.mono _ _
      |exact LeO.none _
      |refine LeO.ite ?_ ?_
      |refine LeO.bind ?_ (fun _=>?_)
    · intro y0 y1 y2 y3 y4
      unfold impl_splitting.l1;repeat' first
      |(with_reducible exact ih0 _ _ _)
      |(with_reducible exact ih1 _ _ _ _ _)
      |(with_reducible exact impl_totient.mono _ _)
      |(with_reducible exact LeO.refl _)
      |(with_reducible exact LeO.none _)
      |(with_reducible refine LeO.ite ?_ ?_)
      |(with_reducible refine LeO.bind ?_ (fun _=>?_))
      |exact ih0 _ _ _
      |exact ih1 _ _ _ _ _
      |exact impl_totient.mono _ _
      |exact LeO.none _
      |refine LeO.ite ?_ ?_
      |refine LeO.bind ?_ (fun _=>?_)
theorem impl_splitting.mono:∀a0 a1 k,LeO (impl_splitting.f k a0 a1) (impl_splitting.f (k+1) a0 a1):=by
  intro a0 a1 k;obtain⟨ih0,ih1⟩:=impl_splitting.mono_l k;unfold impl_splitting.f;repeat' first
      |(with_reducible exact ih0 _ _ _)
      |(with_reducible exact ih1 _ _ _ _ _)
      |(with_reducible exact impl_totient.mono _ _)
      |(with_reducible exact LeO.refl _)
      |(with_reducible exact LeO.none _)
      |(with_reducible refine LeO.ite ?_ ?_)
      |(with_reducible refine LeO.bind ?_ (fun _=>?_))
      |exact ih0 _ _ _
      |exact ih1 _ _ _ _ _
      |exact impl_totient.mono _ _
      |exact LeO.none _
      |refine LeO.ite ?_ ?_
      |refine LeO.bind ?_ (fun _=>?_)
def impl_splitting.T10:Bool×List (List Nat×List Nat):=(true,[([],[]),([0],[0]),([],[]),([],[]),([3,1],[3]),([],[]),([4,5],[4,5]),([1,4,0,1],[1]),([2,7,0,1,2,7],[2]),([6,8,0,1,2,3,4,5,6,7,8],[6])])
def impl_splitting.B10:List Nat:=[0,1,0,0,11,0,59,27,159,511]
theorem impl_splitting.tab10:rtab .any (opsOf Try.f132 10)=impl_splitting.T10:=by kernel_rfl
theorem impl_splitting.bits10:waitsOk impl_splitting.T10.2 impl_splitting.B10=true:=by kernel_rfl
set_option maxHeartbeats 8000000 in
set_option maxRecDepth 100000 in
theorem impl_splitting.calls (k:Nat) (a0:Int) (a1:Int) (r1:Int) (r2:Int) (r3:Int) (w:World) (h:impl_splitting.f k a0 a1=some (r1,r2,r3)):
    Calls Try.prog 132 #[.int .i64 a0,.int .i64 a1] w fun e w'=>e=.returned (.tuple #[.int .i64 r1,.int .i64 r2,.int .i64 r3])∧Below w.heap.size w w':=by
  have HB:=qAm (Below.refl w.heap.size w);have H:(impl_splitting.l0 k a1 1 a0)=some (r1,r2,r3):=h;clear h;have H':=qAm H;clear H;go_enter Try.func132,Try.ntmps132;go_wp2;try simp only [Act.put,qSa,qSc,qSb]
  go_loopg [7,8] k (fun kq v7 v8 w'=>∃(x7_1:Int) (x8_1:Int),v7=.int .i64 x7_1∧v8=.int .i64 x8_1∧Aside0 (impl_splitting.l0 kq a1 x7_1 x8_1=some (r1,r2,r3))∧Aside0 (kq≤k)∧Aside0 (Below w.heap.size w w'))
  case atStart=>exact⟨(1),(a0),qB52,qB52,H',⟨Nat.le_refl _⟩,⟨by repeat(first|(with_reducible first|exact HB.1|apply below_alloc|apply pw_below_drewN|apply below_drew1)|exact HB.1)⟩⟩
  case round=>
    clear H';try clear c1
    try clear p2
    obtain⟨x7_1,x8_1,rfl,rfl,HA,HK1,HB⟩:=hrel;cases gk with
    |zero=>exact absurd HA.1 (by simp [impl_splitting.l0])
    |succ k1=>
      have H:=HA.1;clear HA;simp only [impl_splitting.l0] at H
      by_cases c3:a1=0
      · rw [if_pos c3] at H
        exact absurd H (by simp)
      · rw [if_neg c3] at H
        have c3b0:(a1==0)=false:=beq_eq_false_iff_ne.mpr c3;have c3b1:(a1 !=0)=true:=bne_iff_ne.mpr c3
        by_cases c4:(Int.tmod x8_1 a1)=0
        · rw [if_pos c4] at H
          have c4b0:((Int.tmod x8_1 a1)==0)=true:=beq_iff_eq.mpr c4;have c4b1:((Int.tmod x8_1 a1) !=0)=false:=bne_eq_false_iff_eq.mpr c4;clear c4;have H':=qAm H;clear H;go_wp2
          (first|go_roundg k1|((try simp only [add_plain] at *);go_roundg k1))
          case measure=>have:=HK1.1;omega
          case rel=>exact⟨(wrap64 (x7_1*a1)),(wrap64 (Int.tdiv x8_1 a1)),qB52,qB52,H',⟨by have:=HK1.1;omega⟩,⟨by repeat(first|(with_reducible first|exact HB.1|apply below_alloc|apply pw_below_drewN|apply below_drew1)|exact HB.1)⟩⟩
        · rw [if_neg c4] at H
          have c4b0:((Int.tmod x8_1 a1)==0)=false:=beq_eq_false_iff_ne.mpr c4;have c4b1:((Int.tmod x8_1 a1) !=0)=true:=bne_iff_ne.mpr c4
          by_cases c5:x8_1=0
          · rw [if_pos c5] at H
            exact absurd H (by simp)
          · rw [if_neg c5] at H
            have c5b0:(x8_1==0)=false:=beq_eq_false_iff_ne.mpr c5;have c5b1:(x8_1 !=0)=true:=bne_iff_ne.mpr c5;have H':=qAm H;clear H;go_wp2;try simp only [Act.put,qSa,qSc,qSb]
            go_loopg [9,10] k1 (fun kq v9 v10 w'=>∃(x9_2:Int) (x10_2:Int),v9=.int .i64 x9_2∧v10=.int .i64 x10_2∧Aside0 (impl_splitting.l1 kq a1 x7_1 x8_1 x9_2 x10_2=some (r1,r2,r3))∧Aside0 (kq≤k1)∧Aside0 (Below w.heap.size w w'))
            case atStart=>exact⟨(1),(Int.tmod a1 x8_1),qB52,qB52,H',⟨Nat.le_refl _⟩,⟨by repeat(first|(with_reducible first|exact HB.1|apply below_alloc|apply pw_below_drewN|apply below_drew1)|exact HB.1)⟩⟩
            case round=>
              clear H';try clear c1
              try clear p2
              try clear c3
              try clear c3b0
              try clear c3b1
              try clear c4
              try clear c4b0
              try clear c4b1
              try clear c5
              try clear c5b0
              try clear c5b1
              try clear p2
              obtain⟨x9_2,x10_2,rfl,rfl,HA,HK2,HB⟩:=hrel;cases gk with
              |zero=>exact absurd HA.1 (by simp [impl_splitting.l1])
              |succ k2=>
                have H:=HA.1;clear HA;simp only [impl_splitting.l1] at H
                by_cases c6:x8_1=0
                · rw [if_pos c6] at H
                  exact absurd H (by simp)
                · rw [if_neg c6] at H
                  have c6b0:(x8_1==0)=false:=beq_eq_false_iff_ne.mpr c6;have c6b1:(x8_1 !=0)=true:=bne_iff_ne.mpr c6
                  by_cases c7:x10_2=((1:Int) % x8_1)
                  · rw [if_pos c7] at H
                    have c7b0:(x10_2==((1:Int) % x8_1))=true:=beq_iff_eq.mpr c7;have c7b1:(x10_2 !=((1:Int) % x8_1))=false:=bne_eq_false_iff_eq.mpr c7;clear c7;replace H:=qOb H;obtain⟨t208,A80,H⟩:=H;replace H:((impl_totient.f k2 x8_1).bind fun t209=>(if x9_2=0 then (none) else (some (t208,x9_2,wrap64 (Int.tdiv t209 x9_2)))))=some (r1,r2,r3):=H;have A8:=qAm A80;clear A80;replace H:=qOb H;obtain⟨t209,A90,H⟩:=H;replace H:(if x9_2=0 then (none) else (some (t208,x9_2,wrap64 (Int.tdiv t209 x9_2))))=some (r1,r2,r3):=H;have A9:=qAm A90;clear A90
                    by_cases c10:x9_2=0
                    · rw [if_pos c10] at H
                      exact absurd H (by simp)
                    · rw [if_neg c10] at H
                      have c10b0:(x9_2==0)=false:=beq_eq_false_iff_ne.mpr c10;have c10b1:(x9_2 !=0)=true:=bne_iff_ne.mpr c10;simp only [Option.some.injEq,Prod.mk.injEq] at H;obtain⟨rfl,rfl,rfl⟩:=H;try go_wp2
                      have n0_:=qAm (below_drew1 HB.1);clear HB;have HB:=n0_;clear n0_;refine start_ (n:=10) (S:=fun w'=>True) (ds:=[]) #[false,false,false,false,false,false,false,false,false,false] (by kernel_rfl) rfl rfl trivial (fun hHeld=>?_);refine with_tabW impl_splitting.tab10 impl_splitting.bits10 (fun HT_ HW_=>?_);generalize wr.drew=w11 at HB hHeld ⊢;refine pure_ (i:=0) (N:=some 36) (v:=?_) (a':=?_) #[true,false,false,false,false,false,false,false,false,false] rfl rfl (any_of HT_.1 (by kernel_rfl)) (fun _ _ _ h=>h) (Or.inl ⟨by rfl,?_⟩) ?_ ?_;rotate_left
                      · intro w'
                        go_simp;with_reducible rfl
                      rotate_left
                      · simp only [Act.put,qSa,qSb,qSc,i64_w,i32_w]
                        rfl
                      refine pure_ (i:=2) (N:=some 38) (v:=?_) (a':=?_) #[true,false,true,false,false,false,false,false,false,false] rfl rfl (any_of HT_.1 (by kernel_rfl)) (fun _ _ _ h=>h) (Or.inl ⟨by rfl,?_⟩) ?_ ?_;rotate_left
                      · intro w'
                        go_simp;with_reducible rfl
                      rotate_left
                      · simp only [Act.put,qSa,qSb,qSc,i64_w,i32_w]
                        rfl
                      refine pure_ (i:=3) (N:=some 39) (v:=?_) (a':=?_) #[true,false,true,true,false,false,false,false,false,false] rfl rfl (any_of HT_.1 (by kernel_rfl)) (fun _ _ _ h=>h) (Or.inl ⟨by rfl,?_⟩) ?_ ?_;rotate_left
                      · intro w'
                        go_simp;with_reducible rfl
                      rotate_left
                      · simp only [Act.put,qSa,qSb,qSc,i64_w,i32_w]
                        rfl
                      refine pure_ (i:=5) (N:=some 41) (v:=?_) (a':=?_) #[true,false,true,true,false,true,false,false,false,false] rfl rfl (any_of HT_.1 (by kernel_rfl)) (fun _ _ _ h=>h) (Or.inl ⟨by rfl,?_⟩) ?_ ?_;rotate_left
                      · intro w'
                        go_simp;with_reducible rfl
                      rotate_left
                      · simp only [Act.put,qSa,qSb,qSc,i64_w,i32_w]
                        rfl
                      refine one_ (i:=1) (N:=some 37) #[true,true,true,true,false,true,false,false,false,false] rfl rfl (one_of HT_.1 (by kernel_rfl)) (by decide) (fun K hK=>?_);refine goes_ Try.func104 (by kernel_rfl) rfl #[.int .i64 x7_1] (by rfl) rfl rfl qB17 ?_;with_reducible refine(impl_totient.calls k2 x7_1 t208 _ A8.1).mono ?_
                      rintro e w12 ⟨rfl,hb⟩;refine⟨_,rfl,?_⟩;have n0_:=qAm (below_step qB18 hb);clear HB;have HB:=n0_;clear n0_
                      (try clear hb)
                      (try clear hb2)
                      (try clear hk)
                      (try clear hi)
                      refine hK.out _ _ trivial (fun hHeld=>?_);clear hK K;refine norm_ (a':=?_) ?_ ?_;rotate_left
                      · show Act.put _ (some 37) _=_
                        simp only [Act.put,qSa,qSb,qSc,i64_w,i32_w];rfl
                      refine one_ (i:=4) (N:=some 40) #[true,true,true,true,true,true,false,false,false,false] rfl rfl (one_of HT_.1 (by kernel_rfl)) (by decide) (fun K hK=>?_);refine goes_ Try.func104 (by kernel_rfl) rfl #[.int .i64 x8_1] (by rfl) rfl rfl qB17 ?_;with_reducible refine(impl_totient.calls k2 x8_1 t209 _ A9.1).mono ?_
                      rintro e w13 ⟨rfl,hb⟩;refine⟨_,rfl,?_⟩;have n0_:=qAm (below_step qB18 hb);clear HB;have HB:=n0_;clear n0_
                      (try clear hb)
                      (try clear hb2)
                      (try clear hk)
                      (try clear hi)
                      refine hK.out _ _ trivial (fun hHeld=>?_);clear hK K;refine norm_ (a':=?_) ?_ ?_;rotate_left
                      · show Act.put _ (some 40) _=_
                        simp only [Act.put,qSa,qSb,qSc,i64_w,i32_w];rfl
                      refine pure_ (i:=6) (N:=some 42) (v:=?_) (a':=?_) #[true,true,true,true,true,true,true,false,false,false] rfl rfl (any_of HT_.1 (by kernel_rfl)) (fun _ _ _ h=>h) (Or.inl ⟨by rfl,?_⟩) ?_ ?_;rotate_left
                      · intro w'
                        go_simp;with_reducible rfl
                      rotate_left
                      · simp only [Act.put,qSa,qSb,qSc,i64_w,i32_w]
                        rfl
                      refine pure_ (i:=7) (N:=some 4) (v:=?_) (a':=?_) #[true,true,true,true,true,true,true,true,false,false] rfl rfl (any_of HT_.1 (by kernel_rfl)) (fun _ _ _ h=>h) (Or.inl ⟨by rfl,?_⟩) ?_ ?_;rotate_left
                      · intro w'
                        go_simp;with_reducible rfl
                      rotate_left
                      · simp only [Act.put,qSa,qSb,qSc,i64_w,i32_w]
                        rfl
                      refine pure_ (i:=8) (N:=some 5) (v:=?_) (a':=?_) #[true,true,true,true,true,true,true,true,true,false] rfl rfl (any_of HT_.1 (by kernel_rfl)) (fun _ _ _ h=>h) (Or.inl ⟨by rfl,?_⟩) ?_ ?_;rotate_left
                      · intro w'
                        go_simp;with_reducible rfl
                      rotate_left
                      · simp only [Act.put,qSa,qSb,qSc,i64_w,i32_w]
                        rfl
                      refine pure_ (i:=9) (N:=some 6) (v:=?_) (a':=?_) #[true,true,true,true,true,true,true,true,true,true] rfl rfl (any_of HT_.1 (by kernel_rfl)) (fun _ _ _ h=>h) (Or.inl ⟨by rfl,?_⟩) ?_ ?_;rotate_left
                      · intro w'
                        go_simp;with_reducible rfl
                      rotate_left
                      · simp only [Act.put,qSa,qSb,qSc,i64_w,i32_w]
                        rfl
                      refine done_ (done_of HT_.1 (by kernel_rfl)) ?_;try go_wp2
                      go_ret3;exact⟨by first|rfl|(simp [errW_none,errW_some] <;> rfl)|(simp [*,errW_none,errW_some] <;> rfl),by repeat(first|(with_reducible first|exact HB.1|apply below_alloc|apply pw_below_drewN|apply below_drew1)|exact HB.1)⟩
                  · rw [if_neg c7] at H
                    have c7b0:(x10_2==((1:Int) % x8_1))=false:=beq_eq_false_iff_ne.mpr c7;have c7b1:(x10_2 !=((1:Int) % x8_1))=true:=bne_iff_ne.mpr c7;have H':=qAm H;clear H;go_wp2
                    (first|go_roundg k2|((try simp only [add_plain] at *);go_roundg k2))
                    case measure=>have:=HK1.1;have:=HK2.1;omega
                    case rel=>exact⟨(wrap64 (x9_2+1)),(Int.tmod (wrap64 (x10_2*a1)) x8_1),qB52,qB52,H',⟨by have:=HK1.1;have:=HK2.1;omega⟩,⟨by repeat(first|(with_reducible first|exact HB.1|apply below_alloc|apply pw_below_drewN|apply below_drew1)|exact HB.1)⟩⟩

/-! ### impl_splits: function 107 -/
def impl_splits.f (k:Nat) (a0:Int) (a1:Int):Option (Bool):=(impl_splitting.f k a0 a1).bind fun bt210=>(if bt210.1=1 then (if bt210.2.1=1 then (if a1=0 then (none) else (some ((Int.tmod a0 a1) !=0))) else (some false)) else (some false))
theorem impl_splits.mono:∀a0 a1 k,LeO (impl_splits.f k a0 a1) (impl_splits.f (k+1) a0 a1):=by
  intro a0 a1 k;unfold impl_splits.f;repeat' first
      |(with_reducible exact impl_splitting.mono _ _ _)
      |(with_reducible exact LeO.refl _)
      |(with_reducible exact LeO.none _)
      |(with_reducible refine LeO.ite ?_ ?_)
      |(with_reducible refine LeO.bind ?_ (fun _=>?_))
      |exact impl_splitting.mono _ _ _
      |exact LeO.none _
      |refine LeO.ite ?_ ?_
      |refine LeO.bind ?_ (fun _=>?_)
set_option maxHeartbeats 8000000 in
set_option maxRecDepth 100000 in
theorem impl_splits.calls (k:Nat) (a0:Int) (a1:Int) (r:Bool) (w:World) (h:impl_splits.f k a0 a1=some r):
    Calls Try.prog 107 #[.int .i64 a0,.int .i64 a1] w fun e w'=>e=.returned (.bool r)∧Below w.heap.size w w':=by
  have HB:=qAm (Below.refl w.heap.size w);have H:((impl_splitting.f k a0 a1).bind fun bt210=>(if bt210.1=1 then (if bt210.2.1=1 then (if a1=0 then (none) else (some ((Int.tmod a0 a1) !=0))) else (some false)) else (some false)))=some r:=h;clear h;replace H:=qOb H;obtain⟨⟨t210,t211,t212⟩,A30,H⟩:=H;replace H:(if t210=1 then (if t211=1 then (if a1=0 then (none) else (some ((Int.tmod a0 a1) !=0))) else (some false)) else (some false))=some r:=H;have A3:=qAm A30;clear A30
  by_cases c4:t210=1
  · rw [if_pos c4] at H
    have c4b0:(t210==1)=true:=beq_iff_eq.mpr c4;have c4b1:(t210 !=1)=false:=bne_eq_false_iff_eq.mpr c4;clear c4
    by_cases c5:t211=1
    · rw [if_pos c5] at H
      have c5b0:(t211==1)=true:=beq_iff_eq.mpr c5;have c5b1:(t211 !=1)=false:=bne_eq_false_iff_eq.mpr c5;clear c5
      by_cases c6:a1=0
      · rw [if_pos c6] at H
        exact absurd H (by simp)
      · rw [if_neg c6] at H
        have c6b0:(a1==0)=false:=beq_eq_false_iff_ne.mpr c6;have c6b1:(a1 !=0)=true:=bne_iff_ne.mpr c6;obtain rfl:=Option.some.inj H;go_enter Try.func107,Try.ntmps107;go_wp2_with (first|((with_reducible refine gate_callee (f:=132) rfl ?_);refine goesL_ (some 11) rfl rfl Try.func132 (by kernel_rfl) rfl #[.int .i64 a0,.int .i64 a1] rfl qB17 ?_;(with_reducible refine(impl_splitting.calls k a0 a1 t210 t211 t212 _ A3.1).mono ?_);rintro e w7 ⟨rfl,hb⟩;refine⟨_,rfl,?_⟩;have n0_:=qAm (below_step qB18 hb);clear HB;have HB:=n0_;clear n0_;(try clear hb);(try clear hb2);(try clear hk);(try clear hi)));go_ret;exact⟨by first|rfl|(simp [errW_none,errW_some] <;> rfl)|(simp [*,errW_none,errW_some] <;> rfl),by repeat(first|(with_reducible first|exact HB.1|apply below_alloc|apply pw_below_drewN|apply below_drew1)|exact HB.1)⟩
    · rw [if_neg c5] at H
      have c5b0:(t211==1)=false:=beq_eq_false_iff_ne.mpr c5;have c5b1:(t211 !=1)=true:=bne_iff_ne.mpr c5;obtain rfl:=Option.some.inj H;go_enter Try.func107,Try.ntmps107;go_wp2_with (first|((with_reducible refine gate_callee (f:=132) rfl ?_);refine goesL_ (some 11) rfl rfl Try.func132 (by kernel_rfl) rfl #[.int .i64 a0,.int .i64 a1] rfl qB17 ?_;(with_reducible refine(impl_splitting.calls k a0 a1 t210 t211 t212 _ A3.1).mono ?_);rintro e w8 ⟨rfl,hb⟩;refine⟨_,rfl,?_⟩;have n0_:=qAm (below_step qB18 hb);clear HB;have HB:=n0_;clear n0_;(try clear hb);(try clear hb2);(try clear hk);(try clear hi)));go_ret;exact⟨by first|rfl|(simp [errW_none,errW_some] <;> rfl)|(simp [*,errW_none,errW_some] <;> rfl),by repeat(first|(with_reducible first|exact HB.1|apply below_alloc|apply pw_below_drewN|apply below_drew1)|exact HB.1)⟩
  · rw [if_neg c4] at H
    have c4b0:(t210==1)=false:=beq_eq_false_iff_ne.mpr c4;have c4b1:(t210 !=1)=true:=bne_iff_ne.mpr c4;obtain rfl:=Option.some.inj H;go_enter Try.func107,Try.ntmps107;go_wp2_with (first|((with_reducible refine gate_callee (f:=132) rfl ?_);refine goesL_ (some 11) rfl rfl Try.func132 (by kernel_rfl) rfl #[.int .i64 a0,.int .i64 a1] rfl qB17 ?_;(with_reducible refine(impl_splitting.calls k a0 a1 t210 t211 t212 _ A3.1).mono ?_);rintro e w9 ⟨rfl,hb⟩;refine⟨_,rfl,?_⟩;have n0_:=qAm (below_step qB18 hb);clear HB;have HB:=n0_;clear n0_;(try clear hb);(try clear hb2);(try clear hk);(try clear hi)));go_ret;exact⟨by first|rfl|(simp [errW_none,errW_some] <;> rfl)|(simp [*,errW_none,errW_some] <;> rfl),by repeat(first|(with_reducible first|exact HB.1|apply below_alloc|apply pw_below_drewN|apply below_drew1)|exact HB.1)⟩

/-! ### slices_Clone_int64_int64: function 141 -/
def slices_Clone_int64_int64.f (l0:List Int):Option (List Int):=if l0.length<17592186044416 then some l0 else none
-- HAND
theorem hcl_info:(Try.prog.info? 2).map (fun i=>(i.zero,i.size,i.bytes))=some (some (.int .i64 0),1,8):=by kernel_rfl
set_option maxHeartbeats 8000000 in
set_option maxRecDepth 100000 in
theorem slices_Clone_int64_int64.calls (A0:Option Addr) (c0:Nat) (l0:List Int) (r:List Int) (w:World) (hr0:Kd.C (Kd.int .i64) w A0 l0.length l0) (hc0:l0.length≤c0) (h:slices_Clone_int64_int64.f l0=some r):
    Calls Try.prog 141 #[.slice A0 l0.length c0] w fun e w'=>∃v0_:Value,e=.returned (v0_)∧Kd.R (Kd.int .i64) 2 w' w.heap.size (fun _=>True) v0_ r∧Below w.heap.size w w':=by
  have HR0:=qAm hr0;have HC0:=qAm hc0;have HB:=qAm (Below.refl w.heap.size w);unfold slices_Clone_int64_int64.f at h
  by_cases c2:l0.length<17592186044416
  · rw [if_pos c2] at h
    obtain rfl:=Option.some.inj h;clear h;have LMc2:=qAm c2;clear c2 hr0 hc0;cases A0 with
    |none=>
      have hz:l0=[]:=by
        rcases Nat.eq_zero_or_pos l0.length with hz|hz
        · exact List.eq_nil_of_length_eq_zero hz
        · obtain⟨ad,e,_⟩:=HR0.1.2.2 hz
          cases e
      subst hz;have hn:=fun(W:World) (n c n' c':Nat)=>Lib.run_eql_slice_nil (P:=Try.prog) W 22 2 none n c n' c' Try.underlying22
      go_enter Try.func141,Try.ntmps141;go_wp2;go_ret;exact⟨.slice none 0 0,rfl,Kd.R_nil _ _ _ _ _,Below.refl _ _⟩
    |some ad=>
      have hn:=fun(W:World) (n c n' c':Nat)=>Lib.run_eql_slice_nil (P:=Try.prog) W 22 2 (some ad) n c n' c' Try.underlying22
      obtain⟨y105,hy105⟩:∃y_:List Int,y_=([]:List Int):=⟨_,rfl⟩
      obtain⟨y108,hy108⟩:∃y_:List Int,y_=(y105 ++ l0):=⟨_,rfl⟩
      have Ny105:=qAm hy105;have Ny108:=qAm hy108;have N3:=qAm (show y108=l0 by rw [hy108,hy105];rfl);have LM2:=qAm (show y105.length+l0.length<17592186044416 by rw [hy105];simpa using LMc2.1);clear hy105 hy108;go_enter Try.func141,Try.ntmps141;go_wp2_with (first|((with_reducible refine gate_dst (N:=5) rfl ?_);refine Kd.R_lit (Kd.int .i64) _ 2 ?hg (N:=5) ?hd (xs:=([]:List Int)) (inner:=[]) (ok:=fun _=>True) (okp:=fun _=>True) ?hr ?hp (fun _ hk=>hk) trivial (Below.refl _ _) (Nat.le_refl _) (by simp) ?_;(case hd=>rfl);(case hg=>rfl);(case hr=>first|(go_simp;done)|(go_simp;rfl));(case hp=>exact(Reps.none _ _));intro v106 w3 ho4 hb hg_ hnew_;clear hg_ hnew_;(first|rw [← Ny105.1] at ho4|(simp only [Int.reduceToNat] at ho4;rw [← Ny105.1] at ho4));have n0_:=qAm (Kd.R_lower ho4 (below_size qB18));have n1_:=qAm (below_step qB18 hb);clear HB;have HO107:=n0_;have HB:=n1_;clear n0_ n1_;clear hb ho4)|((with_reducible refine gate_builtin (b:=.append) (xs:=#[.tmp 5,.tmp 6]) rfl ?_);at_builtin;refine Kd.R_append_rows (Kd.int .i64) (w0:=w) w.heap.size rfl (.tmp 5) (.tmp 6) 22 2 (.int .i64 0) 8 rfl Try.underlying22 hcl_info rfl (by decide) (by omega) v106 y105 l0 _ _ _ (fun _=>True) (fun _=>False) rfl rfl ?aO ?aR (fun _ _ h=>h) (fun _ h=>h.elim) ?aF ?aB ?aS ?aL ?_;(case aR=>repeat(first|exact(Kd.C_below HR0.1 HB.1)|(with_reducible refine Kd.C_alloc ?_ _)|(with_reducible refine Kd.C_drewN ?_ _)|(with_reducible refine Kd.C_drew ?_)));(case aB=>exact qB18);(case aF=>exact(fun _ _=>trivial));(case aO=>exact(by (with_reducible repeat(first|apply Kd.R_alloc|apply Kd.R_drewN|apply Kd.R_drew));exact HO107.1));(case aS=>exact(below_size qB18));(case aL=>have:=LM2.1;omega);intro v109 w5 ho hb hg hat;rw [← Ny108.1,N3.1] at ho;have n0_:=qAm (hb);have n1_:=qAm (ho);clear HB;clear HO107;have HB:=n0_;have HO110:=n1_;clear n0_ n1_;clear ho hb hg hat));go_ret;exact⟨_,by first|rfl|(simp;done),by (with_reducible repeat(first|apply Kd.R_alloc|apply Kd.R_drewN|apply Kd.R_drew));exact HO110.1,by repeat(first|(with_reducible first|exact HB.1|apply below_alloc|apply pw_below_drewN|apply below_drew1)|exact HB.1)⟩
  · rw [if_neg c2] at h
    cases h

end Go.Proofs.Ytefhabkikaadiaa.PFnExactCycloAtResidues
