/- The functions that the law reaches, as plain functions, each with the proof that the program comes to it; no condition. Written by a program of this session (wip/mp.py) over the printing of the kit; what is marked HAND is told by hand. -/
import Derived.Test.YtkjeadgfoedhbaaPFnExactMoveRootx0
import Derived.Test.YtkjeadgfoedhbaaPFnExactMoveRootx1
import Derived.Test.YtkjeadgfoedhbaaPFnExactMoveRootx2
import Derived.Test.YtkjeadgfoedhbaaPFnExactMoveRootx5
import Derived.Test.YtkjeadgfoedhbaaPFnExactMoveRootx7
namespace Go.Proofs.Ytkjeadgfoedhbaa.PFnExactMoveRoot
open Go.RowKit Go.Proofs.YtkjeadgfoedhbaaW.PrintWords Go.Proofs.YtkjeadgfoedhbaaW.PrintLast Go.Proofs.YtkjeadgfoedhbaaW.PrintMore
attribute [local go_sem] max2_int min2_int max_two min_two max_three min_three max_four min_four   -- for this text's walks alone
set_option linter.unusedVariables false
set_option linter.unusedSimpArgs false

/-! ### laws_FnExactMoveRoot: function 5 -/
-- HAND
set_option maxHeartbeats 4000000 in
theorem nMarkS2_calls (w0 w : World) (ok : Nat → Prop) (u : Value) (l : List (List Int)) (a : Int) (hB : Below w0.heap.size w0 w) (ho : Kd.S (Kd.slice 2 (Kd.int .i64)) 22 w w0.heap.size ok u l) (hl : l.length ≤ 2000000) (hr : ∀ x ∈ l, x.length ≤ 2000000) :
    Calls Try.prog 52 #[u, .int .i64 a] w fun e w' => e = .returned (.int .i64 (nMarkS l a).1) ∧ Kd.S (Kd.slice 2 (Kd.int .i64)) 22 w' w0.heap.size ok u (nMarkS l a).2 ∧ Below w0.heap.size w0 w' ∧ Kept w w' ok := by
  have HO := Aside0.mk ho
  have HB := Aside0.mk hB
  have HL := Aside0.mk hl
  have HR := Aside0.mk hr
  obtain ⟨A, c, rfl⟩ := Kd.S_slice ho
  clear ho hB hl hr
  go_enter Try.func52, Try.ntmps52
  go_wp2
  go_loopg [1, 5] (l.length + 1) (fun kq v1 v5 w' => ∃ (done rest : List (List Int)) (b : Int), v1 = .int .i64 b ∧ v5 = .int .i64 (done.length : Int) ∧ Aside0 (kq = rest.length + 1) ∧ Aside0 (done.length + rest.length = l.length) ∧ Aside0 (∀ x ∈ rest, x.length ≤ 2000000) ∧ Aside0 (nMarkS l a = ((nMarkS rest b).1, done ++ (nMarkS rest b).2)) ∧ Aside0 (Kd.S (Kd.slice 2 (Kd.int .i64)) 22 w' w0.heap.size ok (.slice A l.length c) (done ++ rest)) ∧ Aside0 (Below w0.heap.size w0 w') ∧ Aside0 (Kept w w' ok))
  case atStart => exact ⟨[], l, a, rfl, rfl, ⟨rfl⟩, ⟨by simp⟩, ⟨HR.out⟩, ⟨by simp⟩, ⟨by simpa using HO.out⟩, ⟨HB.out⟩, ⟨Kept.refl _ _⟩⟩
  case round =>
    obtain ⟨done, rest, b, rfl, rfl, HK, HN, HR2, HE, HS, HB2, HP⟩ := hrel
    cases rest with
    | nil =>
      have hd : done.length = l.length := by have := HN.out; simpa using this
      have c0 : decide ((done.length : Int) < (l.length : Int)) = false := by rw [hd]; simp
      go_wp2
      go_ret
      have e := HE.out
      simp only [nMarkS, List.append_nil] at e
      rw [e]
      exact ⟨rfl, by simpa using HS.out, HB2.out, HP.out⟩
    | cons x rest =>
      have hn : done.length + (rest.length + 1) = l.length := by have := HN.out; simpa using this
      have c0 : decide ((done.length : Int) < (l.length : Int)) = true := by simp; omega
      have hlen : (done ++ x :: rest).length = l.length := by simp; omega
      obtain ⟨g, cap, e1, hg0, hg1, _⟩ := Kd.S_form HS.out (by simp; omega)
      rw [hlen] at e1
      injection e1 with eA _ ec
      subst eA ec
      have hS := HS.out
      obtain ⟨oki, cs, hcl, hM, hcc, hoki, hH⟩ := Kd.S_lend hS [] (done.length : Int) (by omega) (by omega)
      obtain ⟨v, rfl, hv⟩ := hM
      have hx : (done ++ x :: rest).getD (done.length : Int).toNat [] = x := by simp
      rw [hx] at hv
      have hcell := hcc 0 v rfl
      have hc2 : wr.cell? ⟨g, done.length, none⟩ = some v := by simpa [Kd.slice] using hcell
      have hc3 : wr.cell? ((⟨g, 0, none⟩ : Addr).add done.length) = some v := by rw [add_plain]; simpa using hc2
      obtain ⟨k1, hk1⟩ := nMark_f x b (by have := HR2.out x (by simp); omega)
      obtain ⟨A1, c1, rfl⟩ := Kd.R_slice hv
      have HV := Aside0.mk hv
      have HH := Aside0.mk hH
      have HO2 := Aside0.mk hoki
      have HK1 := Aside0.mk hk1
      have p5 : (0 : Int) ≤ (done.length : Int) := by omega
      have q5 : (done.length : Int) < (l.length : Int) := by omega
      clear hcell hcc hv hH hoki hk1 hS
      go_wp2_with (go_at_call 51; refine (laws_markInt64S.calls k1 oki (.slice A1 x.length c1) x b (nMark x b).1 (nMark x b).2 w0 _ HB2.out HV.out HK1.out).mono ?_; rintro e w' ⟨rfl, h1_, h2_, h3_⟩; have HV2 := Aside0.mk h1_; have HB3 := Aside0.mk h2_; have HP3 := Aside0.mk h3_; clear h1_ h2_ h3_)
      go_roundg (gk - 1)
      case measure => have := HK.out; simp only [List.length_cons] at this; omega
      case rel =>
        have hH2 := Kd.H_step HH.out (fun k hk hn hlt => HP3.out.2 k hlt hn)
        have hS2 := Kd.H_back hH2 (x' := (nMark x b).2) (okp := oki) ⟨_, rfl, Kd.R_mono (Kd.R_tight rfl HV2.out) (fun k hk => HV.out.1 k hk.symm)⟩ (fun k hk => hk)
        have e2 : (done ++ x :: rest).set (done.length : Int).toNat (nMark x b).2 = (done ++ [(nMark x b).2]) ++ rest := by simp
        rw [e2] at hS2
        refine ⟨done ++ [(nMark x b).2], rest, (nMark x b).1, rfl, by rw [wrap64]; simp; have := HL.out; omega, ⟨by have := HK.out; simp only [List.length_cons] at this; omega⟩, ⟨by simp; omega⟩, ⟨fun y hy => HR2.out y (List.mem_cons_of_mem _ hy)⟩, ⟨by rw [HE.out]; simp [nMarkS]⟩, ⟨hS2⟩, ⟨HB3.out⟩, ⟨?_⟩⟩
        exact HP.out.then_ HP3.out (fun k hk => .inl (HO2.out k hk).1)

set_option maxHeartbeats 4000000 in
theorem nMarkG_calls (w0 w : World) (ok : Nat → Prop) (p n : Int) (u : Value) (l : List (List Int)) (a : Int) (hB : Below w0.heap.size w0 w) (ho : Kd.S (Kd.slice 2 (Kd.int .i64)) 22 w w0.heap.size ok u l) (hl : l.length ≤ 2000000) (hr : ∀ x ∈ l, x.length ≤ 2000000) :
    Calls Try.prog 18 #[.agg #[.int .i64 p, .int .i64 n, u], .int .i64 a] w fun e w' => e = .returned (.int .i64 (nMarkS l a).1) ∧ Kd.S (Kd.slice 2 (Kd.int .i64)) 22 w' w0.heap.size ok u (nMarkS l a).2 ∧ Below w0.heap.size w0 w' ∧ Kept w w' ok := by
  have HO := Aside0.mk ho
  have HB := Aside0.mk hB
  have HL := Aside0.mk hl
  have HR := Aside0.mk hr
  have HK := Aside0.mk (Kept.refl w ok)
  have hu := Try.underlying28
  obtain ⟨A, c, rfl⟩ := Kd.S_slice ho
  clear ho hB hl hr
  go_enter Try.func18, Try.ntmps18
  go_wp2_with (first | ((with_reducible refine gate_dst (N := 2) rfl ?_); refine box_event ?hg (N := 2) ?hd (cs := #[.int .i64 p, .int .i64 n, .slice A l.length c]) (t := 28) ?hr ?_; (case hd => rfl); (case hg => rfl); (case hr => first | (go_simp; done) | (go_simp; rfl)); intro gb hg w5 hbox hb; have n0_ := Aside0.mk (Kd.S_below qB68 hb); have n1_ := Aside0.mk (Kept.below (S := ok) qB39 hb); have n2_ := Aside0.mk (below_step qB38 hb); have BK := Aside0.mk hbox; clear HO HK HB; have HO := n0_; have HK := n1_; have HB := n2_; clear n0_ n1_ n2_; clear hb hbox hg; have hcz6_0 : w5.cell? ⟨gb, 0, none⟩ = some (.int .i64 p) := (blk_cell BK.out 0).trans rfl; have hcz6_1 : w5.cell? ⟨gb, 1, none⟩ = some (.int .i64 n) := (blk_cell BK.out 1).trans rfl; have hcz6_2 : w5.cell? ⟨gb, 2, none⟩ = some (.slice A l.length c) := (blk_cell BK.out 2).trans rfl; have hfz6_0 := blk_frozen BK.out 0; have hfz6_1 := blk_frozen BK.out 1; have hfz6_2 := blk_frozen BK.out 2) | ((with_reducible refine gate_callee (f := 52) rfl ?_); refine goesL_ (some 8) rfl rfl Try.func52 (by kernel_rfl) rfl #[.slice A l.length c, .int .i64 a] rfl qB37 ?_; refine (nMarkS2_calls w0 _ ok _ l a qB38 qB68 HL.out HR.out).mono ?_; rintro e w6 ⟨rfl, h1_, h2_, h3_⟩; refine ⟨_, rfl, ?_⟩; have HK2 := Aside0.mk (Kept.then_ qB39 h3_ (fun k hk => .inl hk)); have HO2 := Aside0.mk h1_; have HB2 := Aside0.mk h2_; clear h1_ h2_ h3_ HO HB HK; have HO := HO2; have HB := HB2; have HK := HK2; clear HO2 HB2 HK2))
  go_ret
  exact ⟨by first | rfl | (go_simp; rfl), by (with_reducible repeat (first | apply Kd.S_alloc | apply Kd.S_drewN | apply Kd.S_drew)); exact HO.out, by repeat (first | (with_reducible first | exact HB.out | apply below_alloc | apply pw_below_drewN | apply below_drew1) | exact HB.out), by repeat (first | (with_reducible first | exact HK.out | apply Kept.alloc | apply Kept.drewN | apply Kept.drew) | exact HK.out)⟩
def nMarkSet (ok : Nat → Prop) (base : Nat) (w : World) (k : Nat) : Prop := ok k ∧ base ≤ k ∧ k < w.heap.size ∧ ∃ q, q ∈ [22, 2] ∧ ∃ cells, w.heap[k]? = some (.cells cells q (0, 0))
theorem nMarkG_both {w0 w : World} {ok : Nat → Prop} {p n : Int} {u : Value} {l : List (List Int)} {a m : Int} (hb : laws_markG_B.f p n l a = some m) (hB : Below w0.heap.size w0 w) (hu : Kd.S (Kd.slice 2 (Kd.int .i64)) 22 w w0.heap.size ok u l) :
    Calls Try.prog 18 #[.agg #[.int .i64 p, .int .i64 n, u], .int .i64 a] w fun e w' => e = .returned (.int .i64 m) ∧ Kd.S (Kd.slice 2 (Kd.int .i64)) 22 w' w0.heap.size ok u (nMarkS l a).2 ∧ Below w0.heap.size w0 w' ∧ Kept w w' (nMarkSet ok w0.heap.size w) := by
  unfold laws_markG_B.f at hb
  by_cases c : l.length ≤ 2000000 ∧ l.all (fun x => decide (x.length ≤ 2000000)) = true
  · rw [if_pos c] at hb
    obtain rfl := Option.some.inj hb
    refine (nMarkG_calls w0 w (nMarkSet ok w0.heap.size w) p n u l a hB (Kd.S_mono (Kd.S_bound hu) (fun k hk => hk)) c.1 (fun x hx => by simpa using List.all_eq_true.mp c.2 x hx)).mono ?_
    rintro e w' ⟨rfl, h1, h2, h3⟩
    exact ⟨rfl, Kd.S_mono h1 (fun k hk => hk.1), h2, h3⟩
  · rw [if_neg c] at hb
    cases hb
theorem nMarkG_R {w w' : World} {base : Nat} {S okR : Nat → Prop} {v : Value} {xs : List Int} (hk : Kept w w' S) (h : (Kd.int .i64).R 2 w base okR v xs) (hne : ∀ k, S k → some k ≠ v.ownBlock) : (Kd.int .i64).R 2 w' base okR v xs :=
  Kd.R_mono (Kd.R_step (Kd.R_tight rfl h) (fun k hk1 hlt => hk.2 k hlt (fun ho => hne k ho hk1))) (fun k hk1 => h.1 k hk1.symm)
theorem nMarkG_B {w w' : World} {base g t : Nat} {ok : Nat → Prop} {cs : Array Value} (hk : Kept w w' (nMarkSet ok base w)) (hb : w.heap[g]? = some (.cells cs t (0, 0))) (ht : t ≠ 22 ∧ t ≠ 2) : w'.heap[g]? = some (.cells cs t (0, 0)) := by
  refine (hk.2 g (blk_lt hb) ?_).trans hb
  rintro ⟨_, _, _, q, hq, cells, hc⟩
  rw [hb] at hc
  simp only [Option.some.injEq, Obj.cells.injEq] at hc
  simp only [List.mem_cons, List.not_mem_nil, or_false] at hq
  rcases hq with h | h
  · exact ht.1 (hc.2.1.trans h)
  · exact ht.2 (hc.2.1.trans h)
-- HAND
theorem same_cell {w : World} {g j t : Nat} {v : Value} {cs : Array Value} (hb : w.heap[g]? = some (.cells cs t (0, 0))) (hv : cs[j]? = some v) : w.setCell ⟨g, j, none⟩ v = w := by
  have e : cs.setIfInBounds j v = cs := by
    apply Array.ext
    · simp
    · intro i h1 h2
      rw [Array.getElem_setIfInBounds]
      split
      · rename_i h
        subst h
        obtain ⟨_, h3⟩ := Array.getElem?_eq_some_iff.mp hv
        exact h3.symm
      · rfl
  have e2 : (w.setCell ⟨g, j, none⟩ v).heap = w.heap := by
    unfold World.setCell
    apply Array.ext
    · simp
    · intro i h1 h2
      simp only [Array.getElem_modify]
      split
      · rename_i h
        subst h
        obtain ⟨_, h3⟩ := Array.getElem?_eq_some_iff.mp hb
        rw [h3]
        simp [e]
      · rfl
  have e3 : w.setCell ⟨g, j, none⟩ v = { w with heap := (w.setCell ⟨g, j, none⟩ v).heap } := rfl
  rw [e3, e2]
def GT1 (b : Nat) (P : Nat → Prop) (v0 v1 : Value) (l0 l1 : List (List Int)) (N1 : Nat) (w : World) : Prop :=
  b ≤ N1 ∧ N1 ≤ w.heap.size ∧ Kd.N (Kd.slice 2 (Kd.int .i64)) 22 w b (fun k => P k ∧ k < N1) v0 l0 ∧ Kd.S (Kd.slice 2 (Kd.int .i64)) 22 w b (fun k => N1 ≤ k ∧ k < w.heap.size) v1 l1
def GT3 (b : Nat) (P : Nat → Prop) (v0 v1 v2 : Value) (l0 l1 l2 : List (List Int)) (N1 M1 N2 M : Nat) (w : World) : Prop :=
  b ≤ N1 ∧ N1 ≤ M1 ∧ M1 ≤ N2 ∧ N2 ≤ M ∧ M ≤ w.heap.size ∧ Kd.N (Kd.slice 2 (Kd.int .i64)) 22 w b (fun k => P k ∧ k < N1) v0 l0 ∧ Kd.S (Kd.slice 2 (Kd.int .i64)) 22 w b (fun k => N1 ≤ k ∧ k < M1) v1 l1 ∧ Kd.S (Kd.slice 2 (Kd.int .i64)) 22 w b (fun k => N2 ≤ k ∧ k < M) v2 l2
theorem gt1_mk {b : Nat} {W w' : World} {P : Nat → Prop} {v0 v1 : Value} {l0 l1 : List (List Int)} (h0 : Kd.N (Kd.slice 2 (Kd.int .i64)) 22 W b P v0 l0) (hb : Below W.heap.size W w') (h1 : Kd.S (Kd.slice 2 (Kd.int .i64)) 22 w' W.heap.size (fun _ => True) v1 l1) (hB : b ≤ W.heap.size) :
    ∃ N1, GT1 b P v0 v1 l0 l1 N1 w' ∧ N1 = W.heap.size :=
  ⟨W.heap.size, ⟨hB, hb.size, Kd.N_old h0 hb, Kd.S_lower (Kd.S_mono (Kd.S_bound h1) (fun k hk => ⟨hk.2.1, hk.2.2.1⟩)) hB⟩, rfl⟩
theorem gt2_mk {b N1 : Nat} {wX W wG : World} {P : Nat → Prop} {v0 v1 v2 : Value} {l0 l1 l2 : List (List Int)} (h : GT1 b P v0 v1 l0 l1 N1 wX) (hk : Kept wX W (fun _ => False)) (hb : Below W.heap.size W wG) (h2 : Kd.S (Kd.slice 2 (Kd.int .i64)) 22 wG W.heap.size (fun _ => True) v2 l2) :
    ∃ N2, GT3 b P v0 v1 v2 l0 l1 l2 N1 wX.heap.size N2 wG.heap.size wG ∧ N2 = W.heap.size := by
  obtain ⟨h0, h1, hn, hs⟩ := h
  have hz := hk.1
  have hy := hb.size
  have un : ∀ k, k < wX.heap.size → wG.heap[k]? = wX.heap[k]? := fun k hlt => (hb.block k (Nat.lt_of_lt_of_le hlt hk.1)).trans (hk.2 k hlt (fun h => h))
  exact ⟨W.heap.size, ⟨h0, h1, hz, hy, Nat.le_refl _, Kd.N_step hn (fun k _ hlt => un k hlt), Kd.S_step hs (fun k _ hlt => un k hlt), Kd.S_lower (Kd.S_mono (Kd.S_bound h2) (fun k hk => ⟨hk.2.1, hk.2.2.1⟩)) (by omega)⟩, rfl⟩
theorem gt_mark {w0 W W0 : World} {P : Nat → Prop} {v0 v1 v2 : Value} {l0 l1 l2 : List (List Int)} {N1 M1 N2 M : Nat} (lo hi : Nat) (u : Value) (l : List (List Int)) (p n a : Int) (hB : Below w0.heap.size w0 W) (h : GT3 w0.heap.size P v0 v1 v2 l0 l1 l2 N1 M1 N2 M W0) (hk : Kept W0 W (fun _ => False))
    (hl : l.length ≤ 2000000) (hr : ∀ x ∈ l, x.length ≤ 2000000) (hu : Kd.S (Kd.slice 2 (Kd.int .i64)) 22 W0 w0.heap.size (fun k => lo ≤ k ∧ k < hi) u l) :
    Calls Try.prog 18 #[.agg #[.int .i64 p, .int .i64 n, u], .int .i64 a] W fun e w' => e = .returned (.int .i64 (nMarkS l a).1) ∧ Below w0.heap.size w0 w' ∧ Kd.S (Kd.slice 2 (Kd.int .i64)) 22 w' w0.heap.size (fun k => lo ≤ k ∧ k < hi) u (nMarkS l a).2 ∧ W0.heap.size ≤ w'.heap.size ∧ (∀ k, k < W0.heap.size → ¬ (lo ≤ k ∧ k < hi) → w'.heap[k]? = W0.heap[k]?) ∧ Kept W w' (nMarkSet (fun k => lo ≤ k ∧ k < hi) w0.heap.size W) := by
  have un : ∀ k, k < W0.heap.size → W.heap[k]? = W0.heap[k]? := fun k hlt => hk.2 k hlt (fun h => h)
  have hu2 := Kd.S_step hu (fun k _ hlt => un k hlt)
  refine (nMarkG_calls w0 W (nMarkSet (fun k => lo ≤ k ∧ k < hi) w0.heap.size W) p n u l a hB (Kd.S_mono (Kd.S_bound hu2) (fun k hk => hk)) hl hr).mono ?_
  rintro e w' ⟨rfl, h1, h2, h3⟩
  exact ⟨rfl, h2, Kd.S_mono h1 (fun k hk => hk.1), Nat.le_trans hk.1 h3.1, fun k hlt hn => (h3.2 k (Nat.lt_of_lt_of_le hlt hk.1) (fun ho => hn ho.1)).trans (un k hlt), h3⟩
theorem gt_mark1 {w0 W W0 : World} {P : Nat → Prop} {v0 v1 v2 : Value} {l0 l1 l2 : List (List Int)} {N1 M1 N2 M : Nat} {p n a m : Int} (hb : laws_markG_B.f p n l1 a = some m) (hB : Below w0.heap.size w0 W) (h : GT3 w0.heap.size P v0 v1 v2 l0 l1 l2 N1 M1 N2 M W0) (hk : Kept W0 W (fun _ => False)) :
    Calls Try.prog 18 #[.agg #[.int .i64 p, .int .i64 n, v1], .int .i64 a] W fun e w' => e = .returned (.int .i64 m) ∧ Below w0.heap.size w0 w' ∧ GT3 w0.heap.size P v0 v1 v2 l0 (nMarkS l1 a).2 l2 N1 M1 N2 M w' ∧ Kept W w' (nMarkSet (fun k => N1 ≤ k ∧ k < M1) w0.heap.size W) := by
  unfold laws_markG_B.f at hb
  by_cases c : l1.length ≤ 2000000 ∧ l1.all (fun x => decide (x.length ≤ 2000000)) = true
  · rw [if_pos c] at hb
    obtain rfl := Option.some.inj hb
    have h' := h
    obtain ⟨g0, g1, g2, g3, g4, hn, hs1, hs2⟩ := h'
    refine (gt_mark N1 M1 v1 l1 p n a hB h hk c.1 (fun x hx => by simpa using List.all_eq_true.mp c.2 x hx) hs1).mono ?_
    rintro e w' ⟨rfl, h1, h2, h3, h4, h5⟩
    exact ⟨rfl, h1, ⟨g0, g1, g2, g3, Nat.le_trans g4 h3, Kd.N_step hn (fun k hk hlt => h4 k hlt (fun ho => by omega)), h2, Kd.S_step hs2 (fun k hk hlt => h4 k hlt (fun ho => by omega))⟩, h5⟩
  · rw [if_neg c] at hb
    cases hb
theorem gt_mark2 {w0 W W0 : World} {P : Nat → Prop} {v0 v1 v2 : Value} {l0 l1 l2 l3 : List (List Int)} {N1 M1 N2 M : Nat} {p n a m : Int} (hb : laws_markSG_B.f l2 a = some m) (ha : laws_markSG_A.f l2 a = some l3) (hB : Below w0.heap.size w0 W) (h : GT3 w0.heap.size P v0 v1 v2 l0 l1 l2 N1 M1 N2 M W0) (hk : Kept W0 W (fun _ => False)) :
    Calls Try.prog 18 #[.agg #[.int .i64 p, .int .i64 n, v2], .int .i64 a] W fun e w' => e = .returned (.int .i64 m) ∧ Below w0.heap.size w0 w' ∧ GT3 w0.heap.size P v0 v1 v2 l0 l1 l3 N1 M1 N2 M w' ∧ Kept W w' (nMarkSet (fun k => N2 ≤ k ∧ k < M) w0.heap.size W) := by
  unfold laws_markSG_B.f at hb
  unfold laws_markSG_A.f at ha
  by_cases c : l2.length ≤ 2000000 ∧ l2.all (fun x => decide (x.length ≤ 2000000)) = true
  · rw [if_pos c] at hb ha
    obtain rfl := Option.some.inj hb
    obtain rfl := Option.some.inj ha
    have h' := h
    obtain ⟨g0, g1, g2, g3, g4, hn, hs1, hs2⟩ := h'
    refine (gt_mark N2 M v2 l2 p n a hB h hk c.1 (fun x hx => by simpa using List.all_eq_true.mp c.2 x hx) hs2).mono ?_
    rintro e w' ⟨rfl, h1, h2, h3, h4, h5⟩
    exact ⟨rfl, h1, ⟨g0, g1, g2, g3, Nat.le_trans g4 h3, Kd.N_step hn (fun k hk hlt => h4 k hlt (fun ho => by omega)), Kd.S_step hs1 (fun k hk hlt => h4 k hlt (fun ho => by omega)), h2⟩, h5⟩
  · rw [if_neg c] at hb
    cases hb
mutual
def laws_FnExactMoveRoot.j0 : Nat → Int → Int → Int → Bool → Int → Int → List (List Int) → Int → Int → List (List Int) → Int → Int → List (List Int) → Int → Int → List (List Int) → Option (Bool)
  | 0, _, _, _, _, _, _, _, _, _, _, _, _, _, _, _, _ => none
  | k + 1, x1, x7, x10, x44, x241000, x241001, x241002, x254000, x254001, x254002, x260000, x260001, x260002, x267000, x267001, x267002 => if x44 = true then (some false) else ((laws_toGauss.f k x241000 x241001 x241002).bind fun bt268 => ((laws_eqGauss.f k x260000 x260001 x260002 bt268.1 bt268.2.1 bt268.2.2).bind fun t273 => (if t273 = true then ((laws_markG_B.f x260000 x260001 x260002 1).bind fun t274 => (if t274 < 0 then (laws_FnExactMoveRoot.j1 k x1 x7 true x241000 x241001 x241002 x254000 x254001 x254002 x267000 x267001 x267002) else ((laws_eqGauss.f k x267000 x267001 x267002 x254000 x254001 x254002).bind fun t275 => (if t275 = true then (laws_FnExactMoveRoot.j1 k x1 x7 (x10 != x7) x241000 x241001 x241002 x254000 x254001 x254002 x267000 x267001 x267002) else (laws_FnExactMoveRoot.j1 k x1 x7 true x241000 x241001 x241002 x254000 x254001 x254002 x267000 x267001 x267002))))) else (some false))))
def laws_FnExactMoveRoot.j1 : Nat → Int → Int → Bool → Int → Int → List (List Int) → Int → Int → List (List Int) → Int → Int → List (List Int) → Option (Bool)
  | 0, _, _, _, _, _, _, _, _, _, _, _, _ => none
  | k + 1, x1, x7, x65, x241000, x241001, x241002, x254000, x254001, x254002, x267000, x267001, x267002 => if x65 = true then (some false) else ((laws_markSG_B.f x267002 1).bind fun t276 => ((laws_markSG_A.f x267002 1).bind fun t277 => ((laws_heldGauss.f k x267000 x267001 t277 1).bind fun t280 => (if t280 < 0 then (some false) else (if t280 = t276 then ((laws_toGauss.f k x241000 x241001 x241002).bind fun bt281 => ((impl_MoveRoot.f k bt281.1 bt281.2.1 bt281.2.2 x1).bind fun bt286 => ((laws_eqGauss.f k bt286.1 bt286.2.1 bt286.2.2.1 x254000 x254001 x254002).bind fun t293 => (if t293 = true then (laws_FnExactMoveRoot.j2 k t276 (bt286.2.2.2 != x7) x267000 x267001 t277) else (laws_FnExactMoveRoot.j2 k t276 true x267000 x267001 t277))))) else (some false))))))
def laws_FnExactMoveRoot.j2 : Nat → Int → Bool → Int → Int → List (List Int) → Option (Bool)
  | 0, _, _, _, _, _ => none
  | k + 1, x12, x92, x267000, x267001, x267002 => if x92 = true then (some false) else ((laws_heldGauss.f k x267000 x267001 x267002 1).bind fun t294 => (if t294 < 0 then (some false) else (if t294 = x12 then (some true) else (some false))))
end
def laws_FnExactMoveRoot.f (k : Nat) (a0_0 : Int) (a0_1 : Int) (l0_2 : List (List Int)) (a1 : Int) : Option (Bool) := (laws_szGauss.f k a0_0 a0_1 l0_2 1048576).bind fun t241 => (if t241 < 0 then (some true) else ((laws_toGauss.f k a0_0 a0_1 l0_2).bind fun bt242 => ((spec_MoveRoot.f k bt242.1 bt242.2.1 bt242.2.2 a1).bind fun bt247 => ((laws_toGauss.f k a0_0 a0_1 l0_2).bind fun bt254 => ((impl_MoveRoot.f k bt254.1 bt254.2.1 bt254.2.2 a1).bind fun bt260 => ((laws_eqGauss.f k bt260.1 bt260.2.1 bt260.2.2.1 bt247.1 bt247.2.1 bt247.2.2.1).bind fun t267 => (if t267 = true then (laws_FnExactMoveRoot.j0 k a1 bt247.2.2.2 bt260.2.2.2 (bt260.2.2.2 != bt247.2.2.2) a0_0 a0_1 l0_2 bt247.1 bt247.2.1 bt247.2.2.1 bt254.1 bt254.2.1 bt254.2.2 bt260.1 bt260.2.1 bt260.2.2.1) else (laws_FnExactMoveRoot.j0 k a1 bt247.2.2.2 bt260.2.2.2 true a0_0 a0_1 l0_2 bt247.1 bt247.2.1 bt247.2.2.1 bt254.1 bt254.2.1 bt254.2.2 bt260.1 bt260.2.1 bt260.2.2.1))))))))
theorem laws_FnExactMoveRoot.mono_l : ∀ k, (∀ y0 y1 y2 y3 y4 y5 y6 y7 y8 y9 y10 y11 y12 y13 y14 y15, LeO (laws_FnExactMoveRoot.j0 k y0 y1 y2 y3 y4 y5 y6 y7 y8 y9 y10 y11 y12 y13 y14 y15) (laws_FnExactMoveRoot.j0 (k + 1) y0 y1 y2 y3 y4 y5 y6 y7 y8 y9 y10 y11 y12 y13 y14 y15)) ∧ (∀ y0 y1 y2 y3 y4 y5 y6 y7 y8 y9 y10 y11, LeO (laws_FnExactMoveRoot.j1 k y0 y1 y2 y3 y4 y5 y6 y7 y8 y9 y10 y11) (laws_FnExactMoveRoot.j1 (k + 1) y0 y1 y2 y3 y4 y5 y6 y7 y8 y9 y10 y11)) ∧ (∀ y0 y1 y2 y3 y4, LeO (laws_FnExactMoveRoot.j2 k y0 y1 y2 y3 y4) (laws_FnExactMoveRoot.j2 (k + 1) y0 y1 y2 y3 y4))
  | 0 => ⟨fun _ _ _ _ _ _ _ _ _ _ _ _ _ _ _ _ r h => by simp [laws_FnExactMoveRoot.j0] at h, fun _ _ _ _ _ _ _ _ _ _ _ _ r h => by simp [laws_FnExactMoveRoot.j1] at h, fun _ _ _ _ _ r h => by simp [laws_FnExactMoveRoot.j2] at h⟩
  | k + 1 => by
    obtain ⟨ih0, ih1, ih2⟩ := laws_FnExactMoveRoot.mono_l k
    refine ⟨?_, ?_, ?_⟩
    · intro y0 y1 y2 y3 y4 y5 y6 y7 y8 y9 y10 y11 y12 y13 y14 y15
      unfold laws_FnExactMoveRoot.j0
      repeat' first
      | (with_reducible exact ih0 _ _ _ _ _ _ _ _ _ _ _ _ _ _ _ _)
      | (with_reducible exact ih1 _ _ _ _ _ _ _ _ _ _ _ _)
      | (with_reducible exact ih2 _ _ _ _ _)
      | (with_reducible exact impl_MoveRoot.mono _ _ _ _ _)
      | (with_reducible exact laws_eqGauss.mono _ _ _ _ _ _ _)
      | (with_reducible exact laws_heldGauss.mono _ _ _ _ _)
      | (with_reducible exact laws_szGauss.mono _ _ _ _ _)
      | (with_reducible exact laws_toGauss.mono _ _ _ _)
      | (with_reducible exact spec_MoveRoot.mono _ _ _ _ _)
      | (with_reducible exact LeO.refl _)
      | (with_reducible exact LeO.none _)
      | (with_reducible refine LeO.ite ?_ ?_)
      | (with_reducible refine LeO.bind ?_ (fun _ => ?_))
      | exact ih0 _ _ _ _ _ _ _ _ _ _ _ _ _ _ _ _
      | exact ih1 _ _ _ _ _ _ _ _ _ _ _ _
      | exact ih2 _ _ _ _ _
      | exact impl_MoveRoot.mono _ _ _ _ _
      | exact laws_eqGauss.mono _ _ _ _ _ _ _
      | exact laws_heldGauss.mono _ _ _ _ _
      | exact laws_szGauss.mono _ _ _ _ _
      | exact laws_toGauss.mono _ _ _ _
      | exact spec_MoveRoot.mono _ _ _ _ _
      | exact LeO.none _
      | refine LeO.ite ?_ ?_
      | refine LeO.bind ?_ (fun _ => ?_)
    · intro y0 y1 y2 y3 y4 y5 y6 y7 y8 y9 y10 y11
      unfold laws_FnExactMoveRoot.j1
      repeat' first
      | (with_reducible exact ih0 _ _ _ _ _ _ _ _ _ _ _ _ _ _ _ _)
      | (with_reducible exact ih1 _ _ _ _ _ _ _ _ _ _ _ _)
      | (with_reducible exact ih2 _ _ _ _ _)
      | (with_reducible exact impl_MoveRoot.mono _ _ _ _ _)
      | (with_reducible exact laws_eqGauss.mono _ _ _ _ _ _ _)
      | (with_reducible exact laws_heldGauss.mono _ _ _ _ _)
      | (with_reducible exact laws_szGauss.mono _ _ _ _ _)
      | (with_reducible exact laws_toGauss.mono _ _ _ _)
      | (with_reducible exact spec_MoveRoot.mono _ _ _ _ _)
      | (with_reducible exact LeO.refl _)
      | (with_reducible exact LeO.none _)
      | (with_reducible refine LeO.ite ?_ ?_)
      | (with_reducible refine LeO.bind ?_ (fun _ => ?_))
      | exact ih0 _ _ _ _ _ _ _ _ _ _ _ _ _ _ _ _
      | exact ih1 _ _ _ _ _ _ _ _ _ _ _ _
      | exact ih2 _ _ _ _ _
      | exact impl_MoveRoot.mono _ _ _ _ _
      | exact laws_eqGauss.mono _ _ _ _ _ _ _
      | exact laws_heldGauss.mono _ _ _ _ _
      | exact laws_szGauss.mono _ _ _ _ _
      | exact laws_toGauss.mono _ _ _ _
      | exact spec_MoveRoot.mono _ _ _ _ _
      | exact LeO.none _
      | refine LeO.ite ?_ ?_
      | refine LeO.bind ?_ (fun _ => ?_)
    · intro y0 y1 y2 y3 y4
      unfold laws_FnExactMoveRoot.j2
      repeat' first
      | (with_reducible exact ih0 _ _ _ _ _ _ _ _ _ _ _ _ _ _ _ _)
      | (with_reducible exact ih1 _ _ _ _ _ _ _ _ _ _ _ _)
      | (with_reducible exact ih2 _ _ _ _ _)
      | (with_reducible exact impl_MoveRoot.mono _ _ _ _ _)
      | (with_reducible exact laws_eqGauss.mono _ _ _ _ _ _ _)
      | (with_reducible exact laws_heldGauss.mono _ _ _ _ _)
      | (with_reducible exact laws_szGauss.mono _ _ _ _ _)
      | (with_reducible exact laws_toGauss.mono _ _ _ _)
      | (with_reducible exact spec_MoveRoot.mono _ _ _ _ _)
      | (with_reducible exact LeO.refl _)
      | (with_reducible exact LeO.none _)
      | (with_reducible refine LeO.ite ?_ ?_)
      | (with_reducible refine LeO.bind ?_ (fun _ => ?_))
      | exact ih0 _ _ _ _ _ _ _ _ _ _ _ _ _ _ _ _
      | exact ih1 _ _ _ _ _ _ _ _ _ _ _ _
      | exact ih2 _ _ _ _ _
      | exact impl_MoveRoot.mono _ _ _ _ _
      | exact laws_eqGauss.mono _ _ _ _ _ _ _
      | exact laws_heldGauss.mono _ _ _ _ _
      | exact laws_szGauss.mono _ _ _ _ _
      | exact laws_toGauss.mono _ _ _ _
      | exact spec_MoveRoot.mono _ _ _ _ _
      | exact LeO.none _
      | refine LeO.ite ?_ ?_
      | refine LeO.bind ?_ (fun _ => ?_)
theorem laws_FnExactMoveRoot.mono : ∀ a0 a1 a2 a3 k, LeO (laws_FnExactMoveRoot.f k a0 a1 a2 a3) (laws_FnExactMoveRoot.f (k + 1) a0 a1 a2 a3) := by
  intro a0 a1 a2 a3 k
  obtain ⟨ih0, ih1, ih2⟩ := laws_FnExactMoveRoot.mono_l k
  unfold laws_FnExactMoveRoot.f
  repeat' first
      | (with_reducible exact ih0 _ _ _ _ _ _ _ _ _ _ _ _ _ _ _ _)
      | (with_reducible exact ih1 _ _ _ _ _ _ _ _ _ _ _ _)
      | (with_reducible exact ih2 _ _ _ _ _)
      | (with_reducible exact impl_MoveRoot.mono _ _ _ _ _)
      | (with_reducible exact laws_eqGauss.mono _ _ _ _ _ _ _)
      | (with_reducible exact laws_heldGauss.mono _ _ _ _ _)
      | (with_reducible exact laws_szGauss.mono _ _ _ _ _)
      | (with_reducible exact laws_toGauss.mono _ _ _ _)
      | (with_reducible exact spec_MoveRoot.mono _ _ _ _ _)
      | (with_reducible exact LeO.refl _)
      | (with_reducible exact LeO.none _)
      | (with_reducible refine LeO.ite ?_ ?_)
      | (with_reducible refine LeO.bind ?_ (fun _ => ?_))
      | exact ih0 _ _ _ _ _ _ _ _ _ _ _ _ _ _ _ _
      | exact ih1 _ _ _ _ _ _ _ _ _ _ _ _
      | exact ih2 _ _ _ _ _
      | exact impl_MoveRoot.mono _ _ _ _ _
      | exact laws_eqGauss.mono _ _ _ _ _ _ _
      | exact laws_heldGauss.mono _ _ _ _ _
      | exact laws_szGauss.mono _ _ _ _ _
      | exact laws_toGauss.mono _ _ _ _
      | exact spec_MoveRoot.mono _ _ _ _ _
      | exact LeO.none _
      | refine LeO.ite ?_ ?_
      | refine LeO.bind ?_ (fun _ => ?_)
-- HAND
-- TRUE ALONE
theorem laws_FnExactMoveRoot.j0_no (k : Nat) (y0 : Int) (y1 : Int) (y2 : Int) (y4 : Int) (y5 : Int) (y6 : List (List Int)) (y7 : Int) (y8 : Int) (y9 : List (List Int)) (y10 : Int) (y11 : Int) (y12 : List (List Int)) (y13 : Int) (y14 : Int) (y15 : List (List Int)) (h : laws_FnExactMoveRoot.j0 k y0 y1 y2 true y4 y5 y6 y7 y8 y9 y10 y11 y12 y13 y14 y15 = some true) : False := by
  cases k with
  | zero => first | (simp only [laws_FnExactMoveRoot.j0] at h; done) | (simp only [laws_FnExactMoveRoot.j0] at h; cases h)
  | succ k => rw [laws_FnExactMoveRoot.j0, if_pos rfl] at h; cases h
theorem laws_FnExactMoveRoot.j1_no (k : Nat) (y0 : Int) (y1 : Int) (y3 : Int) (y4 : Int) (y5 : List (List Int)) (y6 : Int) (y7 : Int) (y8 : List (List Int)) (y9 : Int) (y10 : Int) (y11 : List (List Int)) (h : laws_FnExactMoveRoot.j1 k y0 y1 true y3 y4 y5 y6 y7 y8 y9 y10 y11 = some true) : False := by
  cases k with
  | zero => first | (simp only [laws_FnExactMoveRoot.j1] at h; done) | (simp only [laws_FnExactMoveRoot.j1] at h; cases h)
  | succ k => rw [laws_FnExactMoveRoot.j1, if_pos rfl] at h; cases h
theorem laws_FnExactMoveRoot.j2_no (k : Nat) (y0 : Int) (y2 : Int) (y3 : Int) (y4 : List (List Int)) (h : laws_FnExactMoveRoot.j2 k y0 true y2 y3 y4 = some true) : False := by
  cases k with
  | zero => first | (simp only [laws_FnExactMoveRoot.j2] at h; done) | (simp only [laws_FnExactMoveRoot.j2] at h; cases h)
  | succ k => rw [laws_FnExactMoveRoot.j2, if_pos rfl] at h; cases h
set_option maxHeartbeats 8000000 in
set_option maxRecDepth 100000 in
theorem laws_FnExactMoveRoot.calls (k : Nat) (a0_0 : Int) (a0_1 : Int) (A0_2 : Option Addr) (c0_2 : Nat) (l0_2 : List (List Int)) (a1 : Int) (w : World) (hr0_2 : Kd.C (Kd.slice 2 (Kd.int .i64)) w A0_2 l0_2.length l0_2) (hc0_2 : l0_2.length ≤ c0_2) (h : laws_FnExactMoveRoot.f k a0_0 a0_1 l0_2 a1 = some true) :
    Calls Try.prog 5 #[.agg #[.int .i64 a0_0, .int .i64 a0_1, .slice A0_2 l0_2.length c0_2], .int .i64 a1] w fun e w' => e = .returned (.bool true) ∧ Below w.heap.size w w' := by
  have hu44 := Try.underlying44
  have hu28 := Try.underlying28
  have HR0_2 := Aside0.mk hr0_2
  have HC0_2 := Aside0.mk hc0_2
  clear hr0_2 hc0_2
  have HB := Aside0.mk (Below.refl w.heap.size w)
  have H : ((laws_szGauss.f k a0_0 a0_1 l0_2 1048576).bind fun t241 => (if t241 < 0 then (some true) else ((laws_toGauss.f k a0_0 a0_1 l0_2).bind fun bt242 => ((spec_MoveRoot.f k bt242.1 bt242.2.1 bt242.2.2 a1).bind fun bt247 => ((laws_toGauss.f k a0_0 a0_1 l0_2).bind fun bt254 => ((impl_MoveRoot.f k bt254.1 bt254.2.1 bt254.2.2 a1).bind fun bt260 => ((laws_eqGauss.f k bt260.1 bt260.2.1 bt260.2.2.1 bt247.1 bt247.2.1 bt247.2.2.1).bind fun t267 => (if t267 = true then (laws_FnExactMoveRoot.j0 k a1 bt247.2.2.2 bt260.2.2.2 (bt260.2.2.2 != bt247.2.2.2) a0_0 a0_1 l0_2 bt247.1 bt247.2.1 bt247.2.2.1 bt254.1 bt254.2.1 bt254.2.2 bt260.1 bt260.2.1 bt260.2.2.1) else (laws_FnExactMoveRoot.j0 k a1 bt247.2.2.2 bt260.2.2.2 true a0_0 a0_1 l0_2 bt247.1 bt247.2.1 bt247.2.2.1 bt254.1 bt254.2.1 bt254.2.2 bt260.1 bt260.2.1 bt260.2.2.1))))))))) = some true := h
  clear h
  replace H := Option.bind_eq_some_iff.mp H
  obtain ⟨t241, A30, H⟩ := H
  replace H : (if t241 < 0 then (some true) else ((laws_toGauss.f k a0_0 a0_1 l0_2).bind fun bt242 => ((spec_MoveRoot.f k bt242.1 bt242.2.1 bt242.2.2 a1).bind fun bt247 => ((laws_toGauss.f k a0_0 a0_1 l0_2).bind fun bt254 => ((impl_MoveRoot.f k bt254.1 bt254.2.1 bt254.2.2 a1).bind fun bt260 => ((laws_eqGauss.f k bt260.1 bt260.2.1 bt260.2.2.1 bt247.1 bt247.2.1 bt247.2.2.1).bind fun t267 => (if t267 = true then (laws_FnExactMoveRoot.j0 k a1 bt247.2.2.2 bt260.2.2.2 (bt260.2.2.2 != bt247.2.2.2) a0_0 a0_1 l0_2 bt247.1 bt247.2.1 bt247.2.2.1 bt254.1 bt254.2.1 bt254.2.2 bt260.1 bt260.2.1 bt260.2.2.1) else (laws_FnExactMoveRoot.j0 k a1 bt247.2.2.2 bt260.2.2.2 true a0_0 a0_1 l0_2 bt247.1 bt247.2.1 bt247.2.2.1 bt254.1 bt254.2.1 bt254.2.2 bt260.1 bt260.2.1 bt260.2.2.1)))))))) = some true := H
  have A3 := Aside0.mk A30
  clear A30
  by_cases c4 : t241 < 0
  · rw [if_pos c4] at H
    have c4b0 : decide (t241 < 0) = true := decide_eq_true c4
    clear c4
    clear H
    go_enter Try.func5, Try.ntmps5
    go_wp2_with (first | ((with_reducible refine gate_dst (N := 2) rfl ?_); refine box_event ?hg (N := 2) ?hd (cs := #[.int .i64 a0_0, .int .i64 a0_1, .slice A0_2 l0_2.length c0_2]) (t := 44) ?hr ?_; (case hd => rfl); (case hg => rfl); (case hr => first | (go_simp; done) | (go_simp; rfl)); intro gb240 hg w5 hbox hb; have n0_ := Aside0.mk (below_step qB38 hb); have n1_ := Aside0.mk (hbox); have n2_ := Aside0.mk ((by rw [hg]; exact (below_size qB38) : w.heap.size ≤ gb240)); have n3_ := Aside0.mk ((by rw [hg]; exact (below_size qB38) : w.heap.size ≤ gb240)); clear HB; have HB := n0_; have BK240 := n1_; have GW240 := n2_; have GE240 := n3_; clear n0_ n1_ n2_ n3_; clear hb hbox hg; have hcz6_0 : w5.cell? ⟨gb240, 0, none⟩ = some (.int .i64 a0_0) := (blk_cell BK240.out 0).trans rfl; have hcz6_1 : w5.cell? ⟨gb240, 1, none⟩ = some (.int .i64 a0_1) := (blk_cell BK240.out 1).trans rfl; have hcz6_2 : w5.cell? ⟨gb240, 2, none⟩ = some (.slice A0_2 l0_2.length c0_2) := (blk_cell BK240.out 2).trans rfl; have hfz6_0 := blk_frozen BK240.out 0; have hfz6_1 := blk_frozen BK240.out 1; have hfz6_2 := blk_frozen BK240.out 2) | ((with_reducible refine gate_callee (f := 23) rfl ?_); refine goesL_ (some 18) rfl rfl Try.func23 (by kernel_rfl) rfl #[.agg #[.int .i64 a0_0, .int .i64 a0_1, .slice A0_2 l0_2.length c0_2], .int .i64 1048576] rfl qB37 ?_; (with_reducible refine (laws_szGauss.calls k a0_0 a0_1 _ _ l0_2 1048576 t241 _ ?side1 ?side2 A3.out).mono ?_); (case side1 => repeat (first | exact (Kd.C_below HR0_2.out HB.out) | (with_reducible refine Kd.C_alloc ?_ _) | (with_reducible refine Kd.C_drewN ?_ _) | (with_reducible refine Kd.C_drew ?_))); (case side2 => exact HC0_2.out); rintro e w7 ⟨rfl, hb⟩; refine ⟨_, rfl, ?_⟩; have n0_ := Aside0.mk (blk_below (g := gb240) (o := .cells #[.int .i64 a0_0, .int .i64 a0_1, .slice A0_2 l0_2.length c0_2] 44 (0, 0)) qB51 hb); have n1_ := Aside0.mk (below_step qB36 hb); clear BK240; clear HB; have BK240 := n0_; have HB := n1_; clear n0_ n1_; (try clear hb); (try clear hb2); (try clear hk); (try clear hi)))
    go_ret
    exact ⟨by first | rfl | (simp [errW_none, errW_some] <;> rfl) | (simp [*, errW_none, errW_some] <;> rfl), by repeat (first | (with_reducible first | exact HB.out | apply below_alloc | apply pw_below_drewN | apply below_drew1 | refine below_set ?_ GE240.out) | exact HB.out)⟩
  · rw [if_neg c4] at H
    have c4b0 : decide (t241 < 0) = false := decide_eq_false c4
    clear c4
    replace H := Option.bind_eq_some_iff.mp H
    obtain ⟨⟨t242, t243, t244⟩, A80, H⟩ := H
    replace H : ((spec_MoveRoot.f k t242 t243 t244 a1).bind fun bt247 => ((laws_toGauss.f k a0_0 a0_1 l0_2).bind fun bt254 => ((impl_MoveRoot.f k bt254.1 bt254.2.1 bt254.2.2 a1).bind fun bt260 => ((laws_eqGauss.f k bt260.1 bt260.2.1 bt260.2.2.1 bt247.1 bt247.2.1 bt247.2.2.1).bind fun t267 => (if t267 = true then (laws_FnExactMoveRoot.j0 k a1 bt247.2.2.2 bt260.2.2.2 (bt260.2.2.2 != bt247.2.2.2) a0_0 a0_1 l0_2 bt247.1 bt247.2.1 bt247.2.2.1 bt254.1 bt254.2.1 bt254.2.2 bt260.1 bt260.2.1 bt260.2.2.1) else (laws_FnExactMoveRoot.j0 k a1 bt247.2.2.2 bt260.2.2.2 true a0_0 a0_1 l0_2 bt247.1 bt247.2.1 bt247.2.2.1 bt254.1 bt254.2.1 bt254.2.2 bt260.1 bt260.2.1 bt260.2.2.1)))))) = some true := H
    have A8 := Aside0.mk A80
    clear A80
    replace H := Option.bind_eq_some_iff.mp H
    obtain ⟨⟨t247, t248, t249, t252⟩, A90, H⟩ := H
    replace H : ((laws_toGauss.f k a0_0 a0_1 l0_2).bind fun bt254 => ((impl_MoveRoot.f k bt254.1 bt254.2.1 bt254.2.2 a1).bind fun bt260 => ((laws_eqGauss.f k bt260.1 bt260.2.1 bt260.2.2.1 t247 t248 t249).bind fun t267 => (if t267 = true then (laws_FnExactMoveRoot.j0 k a1 t252 bt260.2.2.2 (bt260.2.2.2 != t252) a0_0 a0_1 l0_2 t247 t248 t249 bt254.1 bt254.2.1 bt254.2.2 bt260.1 bt260.2.1 bt260.2.2.1) else (laws_FnExactMoveRoot.j0 k a1 t252 bt260.2.2.2 true a0_0 a0_1 l0_2 t247 t248 t249 bt254.1 bt254.2.1 bt254.2.2 bt260.1 bt260.2.1 bt260.2.2.1))))) = some true := H
    have A9 := Aside0.mk A90
    clear A90
    replace H := Option.bind_eq_some_iff.mp H
    obtain ⟨⟨t254, t255, t256⟩, A100, H⟩ := H
    replace H : ((impl_MoveRoot.f k t254 t255 t256 a1).bind fun bt260 => ((laws_eqGauss.f k bt260.1 bt260.2.1 bt260.2.2.1 t247 t248 t249).bind fun t267 => (if t267 = true then (laws_FnExactMoveRoot.j0 k a1 t252 bt260.2.2.2 (bt260.2.2.2 != t252) a0_0 a0_1 l0_2 t247 t248 t249 t254 t255 t256 bt260.1 bt260.2.1 bt260.2.2.1) else (laws_FnExactMoveRoot.j0 k a1 t252 bt260.2.2.2 true a0_0 a0_1 l0_2 t247 t248 t249 t254 t255 t256 bt260.1 bt260.2.1 bt260.2.2.1)))) = some true := H
    have A10 := Aside0.mk A100
    clear A100
    replace H := Option.bind_eq_some_iff.mp H
    obtain ⟨⟨t260, t261, t262, t265⟩, A110, H⟩ := H
    replace H : ((laws_eqGauss.f k t260 t261 t262 t247 t248 t249).bind fun t267 => (if t267 = true then (laws_FnExactMoveRoot.j0 k a1 t252 t265 (t265 != t252) a0_0 a0_1 l0_2 t247 t248 t249 t254 t255 t256 t260 t261 t262) else (laws_FnExactMoveRoot.j0 k a1 t252 t265 true a0_0 a0_1 l0_2 t247 t248 t249 t254 t255 t256 t260 t261 t262))) = some true := H
    have A11 := Aside0.mk A110
    clear A110
    have HC12 := Aside0.mk H
    clear H
    go_enter Try.func5, Try.ntmps5
    go_upto_region 8 with (first | ((with_reducible refine gate_dst (N := 2) rfl ?_); refine box_event ?hg (N := 2) ?hd (cs := #[.int .i64 a0_0, .int .i64 a0_1, .slice A0_2 l0_2.length c0_2]) (t := 44) ?hr ?_; (case hd => rfl); (case hg => rfl); (case hr => first | (go_simp; done) | (go_simp; rfl)); intro gb240 hg w13 hbox hb; have n0_ := Aside0.mk (below_step qB38 hb); have n1_ := Aside0.mk (hbox); have n2_ := Aside0.mk ((by rw [hg]; exact (below_size qB38) : w.heap.size ≤ gb240)); have n3_ := Aside0.mk ((by rw [hg]; exact (below_size qB38) : w.heap.size ≤ gb240)); clear HB; have HB := n0_; have BK240 := n1_; have GW240 := n2_; have GE240 := n3_; clear n0_ n1_ n2_ n3_; clear hb hbox hg; have hcz14_0 : w13.cell? ⟨gb240, 0, none⟩ = some (.int .i64 a0_0) := (blk_cell BK240.out 0).trans rfl; have hcz14_1 : w13.cell? ⟨gb240, 1, none⟩ = some (.int .i64 a0_1) := (blk_cell BK240.out 1).trans rfl; have hcz14_2 : w13.cell? ⟨gb240, 2, none⟩ = some (.slice A0_2 l0_2.length c0_2) := (blk_cell BK240.out 2).trans rfl; have hfz14_0 := blk_frozen BK240.out 0; have hfz14_1 := blk_frozen BK240.out 1; have hfz14_2 := blk_frozen BK240.out 2) | ((with_reducible refine gate_callee (f := 23) rfl ?_); refine goesL_ (some 18) rfl rfl Try.func23 (by kernel_rfl) rfl #[.agg #[.int .i64 a0_0, .int .i64 a0_1, .slice A0_2 l0_2.length c0_2], .int .i64 1048576] rfl qB37 ?_; (with_reducible refine (laws_szGauss.calls k a0_0 a0_1 _ _ l0_2 1048576 t241 _ ?side1 ?side2 A3.out).mono ?_); (case side1 => repeat (first | exact (Kd.C_below HR0_2.out HB.out) | (with_reducible refine Kd.C_alloc ?_ _) | (with_reducible refine Kd.C_drewN ?_ _) | (with_reducible refine Kd.C_drew ?_))); (case side2 => exact HC0_2.out); rintro e w15 ⟨rfl, hb⟩; refine ⟨_, rfl, ?_⟩; have n0_ := Aside0.mk (blk_below (g := gb240) (o := .cells #[.int .i64 a0_0, .int .i64 a0_1, .slice A0_2 l0_2.length c0_2] 44 (0, 0)) qB51 hb); have n1_ := Aside0.mk (below_step qB36 hb); clear BK240; clear HB; have BK240 := n0_; have HB := n1_; clear n0_ n1_; (try clear hb); (try clear hb2); (try clear hk); (try clear hi); have hcz16_0 : w15.cell? ⟨gb240, 0, none⟩ = some (.int .i64 a0_0) := (blk_cell BK240.out 0).trans rfl; have hcz16_1 : w15.cell? ⟨gb240, 1, none⟩ = some (.int .i64 a0_1) := (blk_cell BK240.out 1).trans rfl; have hcz16_2 : w15.cell? ⟨gb240, 2, none⟩ = some (.slice A0_2 l0_2.length c0_2) := (blk_cell BK240.out 2).trans rfl; have hfz16_0 := blk_frozen BK240.out 0; have hfz16_1 := blk_frozen BK240.out 1; have hfz16_2 := blk_frozen BK240.out 2) | ((with_reducible refine gate_callee (f := 25) rfl ?_); refine goesL_ (some 23) rfl rfl Try.func25 (by kernel_rfl) rfl #[.agg #[.int .i64 a0_0, .int .i64 a0_1, .slice A0_2 l0_2.length c0_2]] rfl qB37 ?_; (with_reducible refine (laws_toGauss.calls k a0_0 a0_1 _ _ l0_2 t242 t243 t244 _ ?side1 ?side2 A8.out).mono ?_); (case side1 => repeat (first | exact (Kd.C_below HR0_2.out HB.out) | (with_reducible refine Kd.C_alloc ?_ _) | (with_reducible refine Kd.C_drewN ?_ _) | (with_reducible refine Kd.C_drew ?_))); (case side2 => exact HC0_2.out); rintro e w17 ⟨v245, rfl, ho0, hb⟩; refine ⟨_, rfl, ?_⟩; have n0_ := Aside0.mk (Kd.N_lower (Kd.N_mono (ok' := fun k_ => k_ ≠ gb240) (Kd.S_N (Kd.S_bound ho0)) (fun k_ hk_ => (Kd.freshB (g := gb240) (o := .cells #[.int .i64 a0_0, .int .i64 a0_1, .slice A0_2 l0_2.length c0_2] 44 (0, 0)) qB51 k_ hk_.2.1))) (below_size qB36)); have n1_ := Aside0.mk (blk_below (g := gb240) (o := .cells #[.int .i64 a0_0, .int .i64 a0_1, .slice A0_2 l0_2.length c0_2] 44 (0, 0)) qB51 hb); have n2_ := Aside0.mk (below_step qB36 hb); clear BK240; clear HB; have HO246 := n0_; have BK240 := n1_; have HB := n2_; clear n0_ n1_ n2_; (try clear hb); (try clear hb2); (try clear hk); (try clear hi); (try clear ho0); obtain ⟨Ao18, co18, eo18⟩ := Kd.N_slice HO246.out; subst eo18) | ((with_reducible refine gate_callee (f := 24) rfl ?_); refine goesL_ (some 25) rfl rfl Try.func24 (by kernel_rfl) rfl #[.agg #[.int .i64 t242, .int .i64 t243, .slice Ao18 t244.length co18], .int .i64 a1] rfl qB37 ?_; (with_reducible refine (spec_MoveRoot.calls k t242 t243 _ _ t244 a1 t247 t248 t249 t252 _ ?side1 ?side2 A9.out).mono ?_); (case side1 => repeat (first | exact (Kd.N_reads' HO246.out).2.2 | (with_reducible refine Kd.C_alloc ?_ _) | (with_reducible refine Kd.C_drewN ?_ _) | (with_reducible refine Kd.C_drew ?_))); (case side2 => exact (Kd.N_reads' HO246.out).2.1); rintro e w19 ⟨v250, rfl, ho0, hb⟩; refine ⟨_, rfl, ?_⟩; have n0_ := Aside0.mk (Kd.N_elder' qB59 (Kd.N_base ho0) hb); have n1_ := Aside0.mk (Kd.N_lower (Kd.N_mono (ok' := fun k_ => some k_ ≠ (.slice Ao18 t244.length co18 : Value).ownBlock ∧ k_ ≠ gb240) ho0 (fun k_ hk_ => ⟨(Kd.fresh' (Kd.N_lt qB59) k_ hk_), (Kd.freshB (g := gb240) (o := .cells #[.int .i64 a0_0, .int .i64 a0_1, .slice A0_2 l0_2.length c0_2] 44 (0, 0)) qB51 k_ hk_)⟩)) (below_size qB36)); have n2_ := Aside0.mk (blk_below (g := gb240) (o := .cells #[.int .i64 a0_0, .int .i64 a0_1, .slice A0_2 l0_2.length c0_2] 44 (0, 0)) qB51 hb); have n3_ := Aside0.mk (below_step qB36 hb); clear HO246; clear BK240; clear HB; have HO246 := n0_; have HO251 := n1_; have BK240 := n2_; have HB := n3_; clear n0_ n1_ n2_ n3_; (try clear hb); (try clear hb2); (try clear hk); (try clear hi); (try clear ho0)) | ((with_reducible refine gate_dst (N := 6) rfl ?_); refine box_event ?hg (N := 6) ?hd (cs := #[.int .i64 0, .int .i64 0, .slice none 0 0]) (t := 28) ?hr ?_; (case hd => rfl); (case hg => rfl); (case hr => first | (go_simp; done) | (go_simp; rfl)); intro gb253 hg w20 hbox hb; have n0_ := Aside0.mk (Kd.N_below (Kd.N_elderB qB59 gb253 (Nat.le_of_eq hg.symm)) hb); have n1_ := Aside0.mk (Kd.N_below (Kd.N_elderB qB60 gb253 (Nat.le_of_eq hg.symm)) hb); have n2_ := Aside0.mk (blk_below (g := gb240) (o := .cells #[.int .i64 a0_0, .int .i64 a0_1, .slice A0_2 l0_2.length c0_2] 44 (0, 0)) qB51 hb); have n3_ := Aside0.mk (below_step qB36 hb); have n4_ := Aside0.mk (hbox); have n5_ := Aside0.mk ((by rw [hg]; exact (below_size qB36) : w.heap.size ≤ gb253)); have n6_ := Aside0.mk ((by rw [hg]; exact (below_size qB36) : w.heap.size ≤ gb253)); have n7_ := Aside0.mk ((by rw [hg]; exact Nat.ne_of_lt (blk_lt (g := gb240) (o := .cells #[.int .i64 a0_0, .int .i64 a0_1, .slice A0_2 l0_2.length c0_2] 44 (0, 0)) qB51) : gb240 ≠ gb253)); have n8_ := Aside0.mk ((by rw [hg]; exact Nat.ne_of_gt (blk_lt (g := gb240) (o := .cells #[.int .i64 a0_0, .int .i64 a0_1, .slice A0_2 l0_2.length c0_2] 44 (0, 0)) qB51) : gb253 ≠ gb240)); clear HO246; clear HO251; clear BK240; clear HB; have HO246 := n0_; have HO251 := n1_; have BK240 := n2_; have HB := n3_; have BK253 := n4_; have GW253 := n5_; have GE253 := n6_; have NB240_253 := n7_; have NB253_240 := n8_; clear n0_ n1_ n2_ n3_ n4_ n5_ n6_ n7_ n8_; clear hb hbox hg; have hnb21 := NB253_240.out; have hnc21 := NB240_253.out; have hcz22_0 : w20.cell? ⟨gb253, 0, none⟩ = some (.int .i64 0) := (blk_cell BK253.out 0).trans rfl; have hcz22_1 : w20.cell? ⟨gb253, 1, none⟩ = some (.int .i64 0) := (blk_cell BK253.out 1).trans rfl; have hcz22_2 : w20.cell? ⟨gb253, 2, none⟩ = some (.slice none 0 0) := (blk_cell BK253.out 2).trans rfl; have hfz22_0 := blk_frozen BK253.out 0; have hfz22_1 := blk_frozen BK253.out 1; have hfz22_2 := blk_frozen BK253.out 2; obtain ⟨Ao23, co23, eo23⟩ := Kd.N_slice HO251.out; subst eo23; have hcz24_0 : w20.cell? ⟨gb240, 0, none⟩ = some (.int .i64 a0_0) := (blk_cell BK240.out 0).trans rfl; have hcz24_1 : w20.cell? ⟨gb240, 1, none⟩ = some (.int .i64 a0_1) := (blk_cell BK240.out 1).trans rfl; have hcz24_2 : w20.cell? ⟨gb240, 2, none⟩ = some (.slice A0_2 l0_2.length c0_2) := (blk_cell BK240.out 2).trans rfl; have hfz24_0 := blk_frozen BK240.out 0; have hfz24_1 := blk_frozen BK240.out 1; have hfz24_2 := blk_frozen BK240.out 2) | ((with_reducible refine gate_callee (f := 25) rfl ?_); refine goesL_ (some 29) rfl rfl Try.func25 (by kernel_rfl) rfl #[.agg #[.int .i64 a0_0, .int .i64 a0_1, .slice A0_2 l0_2.length c0_2]] rfl qB37 ?_; (with_reducible refine (laws_toGauss.calls k a0_0 a0_1 _ _ l0_2 t254 t255 t256 _ ?side1 ?side2 A10.out).mono ?_); (case side1 => exact Kd.C_below HR0_2.out qB29); (case side2 => exact HC0_2.out); rintro e w25 ⟨v257, rfl, ho0, hb⟩; refine ⟨_, rfl, ?_⟩; obtain ⟨N1_, HT1_, HN1_⟩ := gt1_mk (P := fun k => k ≠ gb240 ∧ k ≠ gb253) (Kd.N_mono (ok' := fun k => k ≠ gb240 ∧ k ≠ gb253) qB10 (by intro k hk; exact ⟨by first | exact hk.2 | exact hk.1.2 | exact hk.1.1.2 | exact hk.1.1.1.2 | exact hk.2.2 | exact hk.1.2.2 | exact hk.1.2.1 | exact hk.1.1 | exact hk.1.1.1 | exact hk.2.1 | exact hk.1.1.1.1 | exact hk.1.1.1.1.2 | exact hk.1.1.1.1.1.2, by first | exact hk.2 | exact hk.1.2 | exact hk.1.1.2 | exact hk.1.1.1.2 | exact hk.2.2 | exact hk.1.2.2 | exact hk.1.2.1 | exact hk.1.1 | exact hk.1.1.1 | exact hk.2.1 | exact hk.1.1.1.1 | exact hk.1.1.1.1.2 | exact hk.1.1.1.1.1.2⟩)) hb ho0 (below_size qB29); have GLgb240_ := Aside0.mk (show gb240 < N1_ from by rw [HN1_]; exact blk_lt (g := gb240) (o := .cells #[.int .i64 a0_0, .int .i64 a0_1, .slice A0_2 l0_2.length c0_2] 44 (0, 0)) qB5); have GLgb253_ := Aside0.mk (show gb253 < N1_ from by rw [HN1_]; exact blk_lt (g := gb253) (o := .cells #[.int .i64 t247, .int .i64 t248, .slice Ao23 t249.length co23] 28 (0, 0)) qB1); have M1s_ := Aside0.mk HT1_.2.1; have HK_ := Aside0.mk (Kept.refl w25 (fun _ => False)); have n0_ := Aside0.mk (Kd.N_elder' qB11 (Kd.S_base ho0) hb); have n1_ := Aside0.mk (Kd.N_elder' qB10 (Kd.S_base ho0) hb); have n2_ := Aside0.mk (Kd.N_lower (Kd.N_mono (ok' := fun k_ => some k_ ≠ (.slice Ao18 t244.length co18 : Value).ownBlock ∧ some k_ ≠ (.slice Ao23 t249.length co23 : Value).ownBlock ∧ k_ ≠ gb240 ∧ k_ ≠ gb253) (Kd.S_N (Kd.S_bound ho0)) (fun k_ hk_ => ⟨(Kd.fresh' (Kd.N_lt qB11) k_ hk_.2.1), (Kd.fresh' (Kd.N_lt qB10) k_ hk_.2.1), (Kd.freshB (g := gb240) (o := .cells #[.int .i64 a0_0, .int .i64 a0_1, .slice A0_2 l0_2.length c0_2] 44 (0, 0)) qB5 k_ hk_.2.1), (Kd.freshB (g := gb253) (o := .cells #[.int .i64 t247, .int .i64 t248, .slice Ao23 t249.length co23] 28 (0, 0)) qB1 k_ hk_.2.1)⟩)) (below_size qB29)); have n3_ := Aside0.mk (blk_below (g := gb240) (o := .cells #[.int .i64 a0_0, .int .i64 a0_1, .slice A0_2 l0_2.length c0_2] 44 (0, 0)) qB5 hb); have n4_ := Aside0.mk (blk_below (g := gb253) (o := .cells #[.int .i64 t247, .int .i64 t248, .slice Ao23 t249.length co23] 28 (0, 0)) qB1 hb); have n5_ := Aside0.mk (below_step qB29 hb); clear HO246; clear HO251; clear BK240; clear BK253; clear HB; have HO246 := n0_; have HO251 := n1_; have HO258 := n2_; have BK240 := n3_; have BK253 := n4_; have HB := n5_; clear n0_ n1_ n2_ n3_ n4_ n5_; (try clear hb); (try clear hb2); (try clear hk); (try clear hi); (try clear ho0)) | ((with_reducible refine gate_dst (N := 8) rfl ?_); refine box_event ?hg (N := 8) ?hd (cs := #[.int .i64 0, .int .i64 0, .slice none 0 0]) (t := 28) ?hr ?_; (case hd => rfl); (case hg => rfl); (case hr => first | (go_simp; done) | (go_simp; rfl)); intro gb259 hg w26 hbox hb; have GX_ := Aside0.mk ((by rw [hg]; exact (show Kept w25 _ (fun _ => False) from by (with_reducible repeat (first | apply Kept.alloc | apply Kept.drewN | apply Kept.drew)); exact HK_.out).1 : w25.heap.size ≤ gb259)); have HKb_ := Aside0.mk (Kept.below (S := fun _ => False) qB67 hb); clear HK_; have HK_ := HKb_; clear HKb_; have n0_ := Aside0.mk (Kd.N_below (Kd.N_elderB qB59 gb259 (Nat.le_of_eq hg.symm)) hb); have n1_ := Aside0.mk (Kd.N_below (Kd.N_elderB qB60 gb259 (Nat.le_of_eq hg.symm)) hb); have n2_ := Aside0.mk (Kd.N_below (Kd.N_elderB qB61 gb259 (Nat.le_of_eq hg.symm)) hb); have n3_ := Aside0.mk (blk_below (g := gb240) (o := .cells #[.int .i64 a0_0, .int .i64 a0_1, .slice A0_2 l0_2.length c0_2] 44 (0, 0)) qB51 hb); have n4_ := Aside0.mk (blk_below (g := gb253) (o := .cells #[.int .i64 t247, .int .i64 t248, .slice Ao23 t249.length co23] 28 (0, 0)) qB52 hb); have n5_ := Aside0.mk (below_step qB29 hb); have n6_ := Aside0.mk (hbox); have n7_ := Aside0.mk ((by rw [hg]; exact (below_size qB29) : w.heap.size ≤ gb259)); have n8_ := Aside0.mk ((by rw [hg]; exact (below_size qB29) : w.heap.size ≤ gb259)); have n9_ := Aside0.mk ((by rw [hg]; exact Nat.ne_of_lt (blk_lt (g := gb240) (o := .cells #[.int .i64 a0_0, .int .i64 a0_1, .slice A0_2 l0_2.length c0_2] 44 (0, 0)) qB51) : gb240 ≠ gb259)); have n10_ := Aside0.mk ((by rw [hg]; exact Nat.ne_of_gt (blk_lt (g := gb240) (o := .cells #[.int .i64 a0_0, .int .i64 a0_1, .slice A0_2 l0_2.length c0_2] 44 (0, 0)) qB51) : gb259 ≠ gb240)); have n11_ := Aside0.mk ((by rw [hg]; exact Nat.ne_of_lt (blk_lt (g := gb253) (o := .cells #[.int .i64 t247, .int .i64 t248, .slice Ao23 t249.length co23] 28 (0, 0)) qB52) : gb253 ≠ gb259)); have n12_ := Aside0.mk ((by rw [hg]; exact Nat.ne_of_gt (blk_lt (g := gb253) (o := .cells #[.int .i64 t247, .int .i64 t248, .slice Ao23 t249.length co23] 28 (0, 0)) qB52) : gb259 ≠ gb253)); clear HO246; clear HO251; clear HO258; clear BK240; clear BK253; clear HB; have HO246 := n0_; have HO251 := n1_; have HO258 := n2_; have BK240 := n3_; have BK253 := n4_; have HB := n5_; have BK259 := n6_; have GW259 := n7_; have GE259 := n8_; have NB240_259 := n9_; have NB259_240 := n10_; have NB253_259 := n11_; have NB259_253 := n12_; clear n0_ n1_ n2_ n3_ n4_ n5_ n6_ n7_ n8_ n9_ n10_ n11_ n12_; clear hb hbox hg; have hnb27 := NB259_240.out; have hnc27 := NB240_259.out; have hnb28 := NB259_253.out; have hnc28 := NB253_259.out; have hcz29_0 : w26.cell? ⟨gb259, 0, none⟩ = some (.int .i64 0) := (blk_cell BK259.out 0).trans rfl; have hcz29_1 : w26.cell? ⟨gb259, 1, none⟩ = some (.int .i64 0) := (blk_cell BK259.out 1).trans rfl; have hcz29_2 : w26.cell? ⟨gb259, 2, none⟩ = some (.slice none 0 0) := (blk_cell BK259.out 2).trans rfl; have hfz29_0 := blk_frozen BK259.out 0; have hfz29_1 := blk_frozen BK259.out 1; have hfz29_2 := blk_frozen BK259.out 2; obtain ⟨Ao30, co30, eo30⟩ := Kd.N_slice HO258.out; subst eo30) | ((with_reducible refine gate_callee (f := 26) rfl ?_); refine goesL_ (some 33) rfl rfl Try.func26 (by kernel_rfl) rfl #[.agg #[.int .i64 t254, .int .i64 t255, .slice Ao30 t256.length co30], .int .i64 a1] rfl qB37 ?_; (with_reducible refine (impl_MoveRoot.calls k t254 t255 _ _ t256 a1 t260 t261 t262 t265 _ ?side1 ?side2 A11.out).mono ?_); (case side1 => refine (Kd.N_reads' (e := 22) (base := w.heap.size) (ok := fun k_ => ((some k_ ≠ (.slice Ao18 t244.length co18 : Value).ownBlock ∧ (some k_ ≠ (.slice Ao23 t249.length co23 : Value).ownBlock ∧ (k_ ≠ gb240 ∧ k_ ≠ gb253))) ∧ k_ ≠ gb259)) (n := t256.length) (c := co30) ?_).2.2; exact qB12); (case side2 => exact (Kd.N_reads' HO258.out).2.1); rintro e w31 ⟨v263, rfl, ho0, hb⟩; refine ⟨_, rfl, ?_⟩; obtain ⟨N2_, HT2_, HN2_⟩ := gt2_mk HT1_ (show Kept w25 _ (fun _ => False) from by (with_reducible repeat (first | apply Kept.alloc | apply Kept.drewN | apply Kept.drew | (refine Kept.setCell ?_ (.inr GX_.out) _))); exact HK_.out) hb ho0; have GX2_ := Aside0.mk (show gb259 < N2_ from by rw [HN2_]; exact blk_lt (g := gb259) (o := .cells #[.int .i64 t254, .int .i64 t255, .slice Ao30 t256.length co30] 28 (0, 0)) qB2); clear HK_; have HK_ := Aside0.mk (Kept.refl w31 (fun _ => False)); have n0_ := Aside0.mk (Kd.N_elder' qB13 (Kd.S_base ho0) hb); have n1_ := Aside0.mk (Kd.N_elder' qB14 (Kd.S_base ho0) hb); have n2_ := Aside0.mk (Kd.N_elder' qB12 (Kd.S_base ho0) hb); have n3_ := Aside0.mk (Kd.N_lower (Kd.N_mono (ok' := fun k_ => some k_ ≠ (.slice Ao18 t244.length co18 : Value).ownBlock ∧ some k_ ≠ (.slice Ao23 t249.length co23 : Value).ownBlock ∧ some k_ ≠ (.slice Ao30 t256.length co30 : Value).ownBlock ∧ k_ ≠ gb240 ∧ k_ ≠ gb253 ∧ k_ ≠ gb259) (Kd.S_N (Kd.S_bound ho0)) (fun k_ hk_ => ⟨(Kd.fresh' (Kd.N_lt qB13) k_ hk_.2.1), (Kd.fresh' (Kd.N_lt qB14) k_ hk_.2.1), (Kd.fresh' (Kd.N_lt qB12) k_ hk_.2.1), (Kd.freshB (g := gb240) (o := .cells #[.int .i64 a0_0, .int .i64 a0_1, .slice A0_2 l0_2.length c0_2] 44 (0, 0)) qB6 k_ hk_.2.1), (Kd.freshB (g := gb253) (o := .cells #[.int .i64 t247, .int .i64 t248, .slice Ao23 t249.length co23] 28 (0, 0)) qB7 k_ hk_.2.1), (Kd.freshB (g := gb259) (o := .cells #[.int .i64 t254, .int .i64 t255, .slice Ao30 t256.length co30] 28 (0, 0)) qB2 k_ hk_.2.1)⟩)) (below_size qB24)); have n4_ := Aside0.mk (blk_below (g := gb240) (o := .cells #[.int .i64 a0_0, .int .i64 a0_1, .slice A0_2 l0_2.length c0_2] 44 (0, 0)) qB6 hb); have n5_ := Aside0.mk (blk_below (g := gb253) (o := .cells #[.int .i64 t247, .int .i64 t248, .slice Ao23 t249.length co23] 28 (0, 0)) qB7 hb); have n6_ := Aside0.mk (blk_below (g := gb259) (o := .cells #[.int .i64 t254, .int .i64 t255, .slice Ao30 t256.length co30] 28 (0, 0)) qB2 hb); have n7_ := Aside0.mk (below_step qB24 hb); clear HO246; clear HO251; clear HO258; clear BK240; clear BK253; clear BK259; clear HB; have HO246 := n0_; have HO251 := n1_; have HO258 := n2_; have HO264 := n3_; have BK240 := n4_; have BK253 := n5_; have BK259 := n6_; have HB := n7_; clear n0_ n1_ n2_ n3_ n4_ n5_ n6_ n7_; (try clear hb); (try clear hb2); (try clear hk); (try clear hi); (try clear ho0)) | ((with_reducible refine gate_dst (N := 9) rfl ?_); refine box_event ?hg (N := 9) ?hd (cs := #[.int .i64 0, .int .i64 0, .slice none 0 0]) (t := 28) ?hr ?_; (case hd => rfl); (case hg => rfl); (case hr => first | (go_simp; done) | (go_simp; rfl)); intro gb266 hg w32 hbox hb; have GG_ := Aside0.mk ((by rw [hg]; exact (show Kept w31 _ (fun _ => False) from by (with_reducible repeat (first | apply Kept.alloc | apply Kept.drewN | apply Kept.drew)); exact HK_.out).1 : w31.heap.size ≤ gb266)); have HKb_ := Aside0.mk (Kept.below (S := fun _ => False) qB67 hb); clear HK_; have HK_ := HKb_; clear HKb_; have n0_ := Aside0.mk (Kd.N_below (Kd.N_elderB qB59 gb266 (Nat.le_of_eq hg.symm)) hb); have n1_ := Aside0.mk (Kd.N_below (Kd.N_elderB qB60 gb266 (Nat.le_of_eq hg.symm)) hb); have n2_ := Aside0.mk (Kd.N_below (Kd.N_elderB qB61 gb266 (Nat.le_of_eq hg.symm)) hb); have n3_ := Aside0.mk (Kd.N_below (Kd.N_elderB (by (with_reducible repeat (first | apply Kd.N_alloc | apply Kd.N_drewN | apply Kd.N_drew)); exact HO264.out) gb266 (Nat.le_of_eq hg.symm)) hb); have n4_ := Aside0.mk (blk_below (g := gb240) (o := .cells #[.int .i64 a0_0, .int .i64 a0_1, .slice A0_2 l0_2.length c0_2] 44 (0, 0)) qB51 hb); have n5_ := Aside0.mk (blk_below (g := gb253) (o := .cells #[.int .i64 t247, .int .i64 t248, .slice Ao23 t249.length co23] 28 (0, 0)) qB52 hb); have n6_ := Aside0.mk (blk_below (g := gb259) (o := .cells #[.int .i64 t254, .int .i64 t255, .slice Ao30 t256.length co30] 28 (0, 0)) qB53 hb); have n7_ := Aside0.mk (below_step qB24 hb); have n8_ := Aside0.mk (hbox); have n9_ := Aside0.mk ((by rw [hg]; exact (below_size qB24) : w.heap.size ≤ gb266)); have n10_ := Aside0.mk ((by rw [hg]; exact (below_size qB24) : w.heap.size ≤ gb266)); have n11_ := Aside0.mk ((by rw [hg]; exact Nat.ne_of_lt (blk_lt (g := gb240) (o := .cells #[.int .i64 a0_0, .int .i64 a0_1, .slice A0_2 l0_2.length c0_2] 44 (0, 0)) qB51) : gb240 ≠ gb266)); have n12_ := Aside0.mk ((by rw [hg]; exact Nat.ne_of_gt (blk_lt (g := gb240) (o := .cells #[.int .i64 a0_0, .int .i64 a0_1, .slice A0_2 l0_2.length c0_2] 44 (0, 0)) qB51) : gb266 ≠ gb240)); have n13_ := Aside0.mk ((by rw [hg]; exact Nat.ne_of_lt (blk_lt (g := gb253) (o := .cells #[.int .i64 t247, .int .i64 t248, .slice Ao23 t249.length co23] 28 (0, 0)) qB52) : gb253 ≠ gb266)); have n14_ := Aside0.mk ((by rw [hg]; exact Nat.ne_of_gt (blk_lt (g := gb253) (o := .cells #[.int .i64 t247, .int .i64 t248, .slice Ao23 t249.length co23] 28 (0, 0)) qB52) : gb266 ≠ gb253)); have n15_ := Aside0.mk ((by rw [hg]; exact Nat.ne_of_lt (blk_lt (g := gb259) (o := .cells #[.int .i64 t254, .int .i64 t255, .slice Ao30 t256.length co30] 28 (0, 0)) qB53) : gb259 ≠ gb266)); have n16_ := Aside0.mk ((by rw [hg]; exact Nat.ne_of_gt (blk_lt (g := gb259) (o := .cells #[.int .i64 t254, .int .i64 t255, .slice Ao30 t256.length co30] 28 (0, 0)) qB53) : gb266 ≠ gb259)); clear HO246; clear HO251; clear HO258; clear HO264; clear BK240; clear BK253; clear BK259; clear HB; have HO246 := n0_; have HO251 := n1_; have HO258 := n2_; have HO264 := n3_; have BK240 := n4_; have BK253 := n5_; have BK259 := n6_; have HB := n7_; have BK266 := n8_; have GW266 := n9_; have GE266 := n10_; have NB240_266 := n11_; have NB266_240 := n12_; have NB253_266 := n13_; have NB266_253 := n14_; have NB259_266 := n15_; have NB266_259 := n16_; clear n0_ n1_ n2_ n3_ n4_ n5_ n6_ n7_ n8_ n9_ n10_ n11_ n12_ n13_ n14_ n15_ n16_; clear hb hbox hg; have hnb33 := NB266_240.out; have hnc33 := NB240_266.out; have hnb34 := NB266_253.out; have hnc34 := NB253_266.out; have hnb35 := NB266_259.out; have hnc35 := NB259_266.out; have hcz36_0 : w32.cell? ⟨gb266, 0, none⟩ = some (.int .i64 0) := (blk_cell BK266.out 0).trans rfl; have hcz36_1 : w32.cell? ⟨gb266, 1, none⟩ = some (.int .i64 0) := (blk_cell BK266.out 1).trans rfl; have hcz36_2 : w32.cell? ⟨gb266, 2, none⟩ = some (.slice none 0 0) := (blk_cell BK266.out 2).trans rfl; have hfz36_0 := blk_frozen BK266.out 0; have hfz36_1 := blk_frozen BK266.out 1; have hfz36_2 := blk_frozen BK266.out 2; obtain ⟨Ao37, co37, eo37⟩ := Kd.N_slice HO264.out; subst eo37))
    (try simp only [Act.put, List.setIfInBounds_toArray, List.set_cons_zero, List.set_cons_succ])
    go_cut [44] (fun v44 wc => ∃ (kq : Nat) (x44_11 : Bool), v44 = .bool x44_11 ∧ Aside0 (laws_FnExactMoveRoot.j0 kq a1 t252 t265 x44_11 a0_0 a0_1 l0_2 t247 t248 t249 t254 t255 t256 t260 t261 t262 = some true) ∧ Aside0 (kq ≤ k) ∧ Aside0 (Kd.N (Kd.slice 2 (Kd.int .i64)) 22 wc w.heap.size (fun k_ => some k_ ≠ ((.slice Ao30 t256.length co30) : Value).ownBlock ∧ some k_ ≠ ((.slice Ao37 t262.length co37) : Value).ownBlock ∧ k_ ≠ gb240 ∧ k_ ≠ gb253 ∧ k_ ≠ gb259 ∧ k_ ≠ gb266) (.slice Ao23 t249.length co23) t249) ∧ Aside0 (Kd.N (Kd.slice 2 (Kd.int .i64)) 22 wc w.heap.size (fun k_ => some k_ ≠ ((.slice Ao23 t249.length co23) : Value).ownBlock ∧ some k_ ≠ ((.slice Ao37 t262.length co37) : Value).ownBlock ∧ k_ ≠ gb240 ∧ k_ ≠ gb253 ∧ k_ ≠ gb259 ∧ k_ ≠ gb266) (.slice Ao30 t256.length co30) t256) ∧ Aside0 (Kd.N (Kd.slice 2 (Kd.int .i64)) 22 wc w.heap.size (fun k_ => some k_ ≠ ((.slice Ao23 t249.length co23) : Value).ownBlock ∧ some k_ ≠ ((.slice Ao30 t256.length co30) : Value).ownBlock ∧ k_ ≠ gb240 ∧ k_ ≠ gb253 ∧ k_ ≠ gb259 ∧ k_ ≠ gb266) (.slice Ao37 t262.length co37) t262) ∧ Aside0 (wc.heap[gb240]? = some (.cells #[.int .i64 a0_0, .int .i64 a0_1, (.slice A0_2 l0_2.length c0_2)] 44 (0, 0))) ∧ Aside0 (wc.heap[gb253]? = some (.cells #[.int .i64 t247, .int .i64 t248, (.slice Ao23 t249.length co23)] 28 (0, 0))) ∧ Aside0 (wc.heap[gb259]? = some (.cells #[.int .i64 t254, .int .i64 t255, (.slice Ao30 t256.length co30)] 28 (0, 0))) ∧ Aside0 (wc.heap[gb266]? = some (.cells #[.int .i64 t260, .int .i64 t261, (.slice Ao37 t262.length co37)] 28 (0, 0))) ∧ Aside0 (Below w.heap.size w wc) ∧ Aside0 (Kept w31 wc (fun _ => False)))
    case first =>
      have H := HC12.out
      clear HC12
      replace H := Option.bind_eq_some_iff.mp H
      obtain ⟨t267, A380, H⟩ := H
      replace H : (if t267 = true then (laws_FnExactMoveRoot.j0 k a1 t252 t265 (t265 != t252) a0_0 a0_1 l0_2 t247 t248 t249 t254 t255 t256 t260 t261 t262) else (laws_FnExactMoveRoot.j0 k a1 t252 t265 true a0_0 a0_1 l0_2 t247 t248 t249 t254 t255 t256 t260 t261 t262)) = some true := H
      have A38 := Aside0.mk A380
      clear A380
      by_cases c39 : t267 = true
      · subst c39
        have H1 : (laws_FnExactMoveRoot.j0 k a1 t252 t265 (t265 != t252) a0_0 a0_1 l0_2 t247 t248 t249 t254 t255 t256 t260 t261 t262) = some true := by rw [if_pos rfl] at H; exact H
        clear H
        have H := H1
        clear H1
        have H' := Aside0.mk H
        clear H
        have hnb40 := NB266_240.out
        have hnc40 := NB240_266.out
        have hnb41 := NB266_253.out
        have hnc41 := NB253_266.out
        have hnb42 := NB266_259.out
        have hnc42 := NB259_266.out
        have hcz43_0 : w32.cell? ⟨gb266, 0, none⟩ = some (.int .i64 0) := (blk_cell BK266.out 0).trans rfl
        have hcz43_1 : w32.cell? ⟨gb266, 1, none⟩ = some (.int .i64 0) := (blk_cell BK266.out 1).trans rfl
        have hcz43_2 : w32.cell? ⟨gb266, 2, none⟩ = some (.slice none 0 0) := (blk_cell BK266.out 2).trans rfl
        have hfz43_0 := blk_frozen BK266.out 0
        have hfz43_1 := blk_frozen BK266.out 1
        have hfz43_2 := blk_frozen BK266.out 2
        have hnb44 := NB253_240.out
        have hnc44 := NB240_253.out
        have hnb45 := NB253_259.out
        have hnc45 := NB259_253.out
        have hcz46_0 : w32.cell? ⟨gb253, 0, none⟩ = some (.int .i64 t247) := (blk_cell BK253.out 0).trans rfl
        have hcz46_1 : w32.cell? ⟨gb253, 1, none⟩ = some (.int .i64 t248) := (blk_cell BK253.out 1).trans rfl
        have hcz46_2 : w32.cell? ⟨gb253, 2, none⟩ = some (.slice Ao23 t249.length co23) := (blk_cell BK253.out 2).trans rfl
        have hfz46_0 := blk_frozen BK253.out 0
        have hfz46_1 := blk_frozen BK253.out 1
        have hfz46_2 := blk_frozen BK253.out 2
        go_wp2_with (first | ((with_reducible refine gate_callee (f := 15) rfl ?_); refine goesL_ (some 38) rfl rfl Try.func15 (by kernel_rfl) rfl #[.agg #[.int .i64 t260, .int .i64 t261, .slice Ao37 t262.length co37], .agg #[.int .i64 t247, .int .i64 t248, .slice Ao23 t249.length co23]] rfl qB37 ?_; (with_reducible refine (laws_eqGauss.calls k t260 t261 _ _ t262 t247 t248 _ _ t249 true _ ?side1 ?side2 ?side3 ?side4 A38.out).mono ?_); (case side1 => refine (Kd.N_reads' (e := 22) (base := w.heap.size) (ok := fun k_ => ((some k_ ≠ (.slice Ao18 t244.length co18 : Value).ownBlock ∧ (some k_ ≠ (.slice Ao23 t249.length co23 : Value).ownBlock ∧ (some k_ ≠ (.slice Ao30 t256.length co30 : Value).ownBlock ∧ (k_ ≠ gb240 ∧ (k_ ≠ gb253 ∧ k_ ≠ gb259))))) ∧ k_ ≠ gb266)) (n := t262.length) (c := co37) ?_).2.2; exact qB15); (case side2 => exact (Kd.N_reads' HO264.out).2.1); (case side3 => refine (Kd.N_reads' (e := 22) (base := w.heap.size) (ok := fun k_ => ((((((some k_ ≠ (.slice Ao18 t244.length co18 : Value).ownBlock ∧ k_ ≠ gb240) ∧ k_ ≠ gb253) ∧ some k_ ≠ (.slice Ao30 t256.length co30 : Value).ownBlock) ∧ k_ ≠ gb259) ∧ some k_ ≠ (.slice Ao37 t262.length co37 : Value).ownBlock) ∧ k_ ≠ gb266)) (n := t249.length) (c := co23) ?_).2.2; exact qB16); (case side4 => exact (Kd.N_reads' HO251.out).2.1); rintro e w47 ⟨rfl, hb⟩; refine ⟨_, rfl, ?_⟩; have HKb_ := Aside0.mk (Kept.below (S := fun _ => False) (by (with_reducible repeat (first | apply Kept.alloc | apply Kept.drewN | apply Kept.drew | (refine Kept.setCell ?_ (.inr GG_.out) _))); exact HK_.out) hb); clear HK_; have HK_ := HKb_; clear HKb_; have n0_ := Aside0.mk (Kd.N_below (by (with_reducible repeat (first | apply Kd.N_alloc | apply Kd.N_drewN | apply Kd.N_drew)); exact (Kd.N_mono (Kd.N_far (p := ⟨gb266, 2, none⟩) (Kd.N_far (p := ⟨gb266, 1, none⟩) (Kd.N_far (p := ⟨gb266, 0, none⟩) (Kd.N_mono HO246.out (fun k_ hk => (⟨hk, hk.2⟩ : _ ∧ k_ ≠ gb266))) (fun _ hk => hk.2) (.int .i64 t260)) (fun _ hk => hk.2) (.int .i64 t261)) (fun _ hk => hk.2) (.slice Ao37 t262.length co37)) (fun _ h_ => h_.1))) hb); have n1_ := Aside0.mk (Kd.N_below qB16 hb); have n2_ := Aside0.mk (Kd.N_below (by (with_reducible repeat (first | apply Kd.N_alloc | apply Kd.N_drewN | apply Kd.N_drew)); exact (Kd.N_mono (Kd.N_far (p := ⟨gb266, 2, none⟩) (Kd.N_far (p := ⟨gb266, 1, none⟩) (Kd.N_far (p := ⟨gb266, 0, none⟩) (Kd.N_mono HO258.out (fun k_ hk => (⟨hk, hk.2⟩ : _ ∧ k_ ≠ gb266))) (fun _ hk => hk.2) (.int .i64 t260)) (fun _ hk => hk.2) (.int .i64 t261)) (fun _ hk => hk.2) (.slice Ao37 t262.length co37)) (fun _ h_ => h_.1))) hb); have n3_ := Aside0.mk (Kd.N_below qB15 hb); have n4_ := Aside0.mk (blk_below (g := gb240) (o := .cells #[.int .i64 a0_0, .int .i64 a0_1, .slice A0_2 l0_2.length c0_2] 44 (0, 0)) (by (with_reducible repeat (first | refine blk_drewN ?_ _ | refine blk_drew ?_ | refine blk_alloc ?_ _)); refine blk_far ?_ NB240_266.out _; (with_reducible repeat (first | refine blk_drewN ?_ _ | refine blk_drew ?_ | refine blk_alloc ?_ _)); refine blk_far ?_ NB240_266.out _; (with_reducible repeat (first | refine blk_drewN ?_ _ | refine blk_drew ?_ | refine blk_alloc ?_ _)); refine blk_far ?_ NB240_266.out _; (with_reducible repeat (first | refine blk_drewN ?_ _ | refine blk_drew ?_ | refine blk_alloc ?_ _)); exact BK240.out) hb); have n5_ := Aside0.mk (blk_below (g := gb253) (o := .cells #[.int .i64 t247, .int .i64 t248, .slice Ao23 t249.length co23] 28 (0, 0)) (by (with_reducible repeat (first | refine blk_drewN ?_ _ | refine blk_drew ?_ | refine blk_alloc ?_ _)); refine blk_far ?_ NB253_266.out _; (with_reducible repeat (first | refine blk_drewN ?_ _ | refine blk_drew ?_ | refine blk_alloc ?_ _)); refine blk_far ?_ NB253_266.out _; (with_reducible repeat (first | refine blk_drewN ?_ _ | refine blk_drew ?_ | refine blk_alloc ?_ _)); refine blk_far ?_ NB253_266.out _; (with_reducible repeat (first | refine blk_drewN ?_ _ | refine blk_drew ?_ | refine blk_alloc ?_ _)); exact BK253.out) hb); have n6_ := Aside0.mk (blk_below (g := gb259) (o := .cells #[.int .i64 t254, .int .i64 t255, .slice Ao30 t256.length co30] 28 (0, 0)) (by (with_reducible repeat (first | refine blk_drewN ?_ _ | refine blk_drew ?_ | refine blk_alloc ?_ _)); refine blk_far ?_ NB259_266.out _; (with_reducible repeat (first | refine blk_drewN ?_ _ | refine blk_drew ?_ | refine blk_alloc ?_ _)); refine blk_far ?_ NB259_266.out _; (with_reducible repeat (first | refine blk_drewN ?_ _ | refine blk_drew ?_ | refine blk_alloc ?_ _)); refine blk_far ?_ NB259_266.out _; (with_reducible repeat (first | refine blk_drewN ?_ _ | refine blk_drew ?_ | refine blk_alloc ?_ _)); exact BK259.out) hb); have n7_ := Aside0.mk (blk_below (g := gb266) (o := .cells #[.int .i64 t260, .int .i64 t261, .slice Ao37 t262.length co37] 28 (0, 0)) (by (with_reducible repeat (first | refine blk_drewN ?_ _ | refine blk_drew ?_ | refine blk_alloc ?_ _)); refine blk_put (cs := #[.int .i64 t260, .int .i64 t261, .slice none 0 0]) ?_ 2 _ rfl; (with_reducible repeat (first | refine blk_drewN ?_ _ | refine blk_drew ?_ | refine blk_alloc ?_ _)); refine blk_put (cs := #[.int .i64 t260, .int .i64 0, .slice none 0 0]) ?_ 1 _ rfl; (with_reducible repeat (first | refine blk_drewN ?_ _ | refine blk_drew ?_ | refine blk_alloc ?_ _)); refine blk_put (cs := #[.int .i64 0, .int .i64 0, .slice none 0 0]) ?_ 0 _ rfl; (with_reducible repeat (first | refine blk_drewN ?_ _ | refine blk_drew ?_ | refine blk_alloc ?_ _)); exact BK266.out) hb); have n8_ := Aside0.mk (below_step qB21 hb); clear HO246; clear HO251; clear HO258; clear HO264; clear BK240; clear BK253; clear BK259; clear BK266; clear HB; have HO246 := n0_; have HO251 := n1_; have HO258 := n2_; have HO264 := n3_; have BK240 := n4_; have BK253 := n5_; have BK259 := n6_; have BK266 := n7_; have HB := n8_; clear n0_ n1_ n2_ n3_ n4_ n5_ n6_ n7_ n8_; (try clear hb); (try clear hb2); (try clear hk); (try clear hi)))
        go_meet
        case rel => exact ⟨_, ((t265 != t252)), qB71, H', ⟨by first | omega | exact Nat.le_refl _⟩, ⟨by (with_reducible repeat (first | apply Kd.N_alloc | apply Kd.N_drewN | apply Kd.N_drew)); exact Kd.N_mono HO251.out (fun _ hk => ⟨hk.1.1.1.2, ⟨hk.1.2, ⟨hk.1.1.1.1.1.2, ⟨hk.1.1.1.1.2, ⟨hk.1.1.2, hk.2⟩⟩⟩⟩⟩)⟩, ⟨by (with_reducible repeat (first | apply Kd.N_alloc | apply Kd.N_drewN | apply Kd.N_drew)); exact Kd.N_mono HO258.out (fun _ hk => ⟨hk.1.1.1.2.1, ⟨hk.1.2, ⟨hk.1.1.1.2.2.1, ⟨hk.1.1.1.2.2.2, ⟨hk.1.1.2, hk.2⟩⟩⟩⟩⟩)⟩, ⟨by (with_reducible repeat (first | apply Kd.N_alloc | apply Kd.N_drewN | apply Kd.N_drew)); exact Kd.N_mono HO264.out (fun _ hk => ⟨hk.1.2.1, ⟨hk.1.2.2.1, ⟨hk.1.2.2.2.1, ⟨hk.1.2.2.2.2.1, ⟨hk.1.2.2.2.2.2, hk.2⟩⟩⟩⟩⟩)⟩, ⟨by (with_reducible repeat (first | refine blk_drewN ?_ _ | refine blk_drew ?_ | refine blk_alloc ?_ _)); exact BK240.out⟩, ⟨by (with_reducible repeat (first | refine blk_drewN ?_ _ | refine blk_drew ?_ | refine blk_alloc ?_ _)); exact BK253.out⟩, ⟨by (with_reducible repeat (first | refine blk_drewN ?_ _ | refine blk_drew ?_ | refine blk_alloc ?_ _)); exact BK259.out⟩, ⟨by (with_reducible repeat (first | refine blk_drewN ?_ _ | refine blk_drew ?_ | refine blk_alloc ?_ _)); exact BK266.out⟩, ⟨by repeat (first | (with_reducible first | exact HB.out | apply below_alloc | apply pw_below_drewN | apply below_drew1 | refine below_set ?_ GE240.out | refine below_set ?_ GE253.out | refine below_set ?_ GE259.out | refine below_set ?_ GE266.out) | exact HB.out)⟩, ⟨by (with_reducible repeat (first | apply Kept.alloc | apply Kept.drewN | apply Kept.drew | (refine Kept.setCell ?_ (.inr GG_.out) _))); exact HK_.out⟩⟩
      · replace c39 := Bool.eq_false_iff.mpr c39
        subst c39
        have H1 : (laws_FnExactMoveRoot.j0 k a1 t252 t265 true a0_0 a0_1 l0_2 t247 t248 t249 t254 t255 t256 t260 t261 t262) = some true := by rw [if_neg (show ¬ (false = true) by decide)] at H; exact H
        exact (laws_FnExactMoveRoot.j0_no _ _ _ _ _ _ _ _ _ _ _ _ _ _ _ _ H1).elim
    case rest =>
      clear HC12
      try clear c1
      try clear c2
      try clear p2
      try clear c3
      try clear c4
      try clear c4b0
      try clear c5
      try clear c15
      try clear c21
      try clear c23
      try clear c24
      try clear c25
      try clear c26
      try clear c27
      try clear c28
      try clear c33
      try clear c34
      try clear c35
      try clear c39
      try clear c40
      try clear c41
      try clear c42
      try clear c44
      try clear c45
      try clear c48
      try clear c49
      try clear c50
      try clear c52
      try clear c53
      try clear hcz14_0
      try clear hcz14_1
      try clear hcz14_2
      try clear hcz16_0
      try clear hcz16_1
      try clear hcz16_2
      try clear hcz22_0
      try clear hcz22_1
      try clear hcz22_2
      try clear hcz24_0
      try clear hcz24_1
      try clear hcz24_2
      try clear hcz29_0
      try clear hcz29_1
      try clear hcz29_2
      try clear hcz36_0
      try clear hcz36_1
      try clear hcz36_2
      try clear hcz43_0
      try clear hcz43_1
      try clear hcz43_2
      try clear hcz46_0
      try clear hcz46_1
      try clear hcz46_2
      try clear hcz51_0
      try clear hcz51_1
      try clear hcz51_2
      try clear hcz54_0
      try clear hcz54_1
      try clear hcz54_2
      try clear hcz6_0
      try clear hcz6_1
      try clear hcz6_2
      try clear hfz14_0
      try clear hfz14_1
      try clear hfz14_2
      try clear hfz16_0
      try clear hfz16_1
      try clear hfz16_2
      try clear hfz22_0
      try clear hfz22_1
      try clear hfz22_2
      try clear hfz24_0
      try clear hfz24_1
      try clear hfz24_2
      try clear hfz29_0
      try clear hfz29_1
      try clear hfz29_2
      try clear hfz36_0
      try clear hfz36_1
      try clear hfz36_2
      try clear hfz43_0
      try clear hfz43_1
      try clear hfz43_2
      try clear hfz46_0
      try clear hfz46_1
      try clear hfz46_2
      try clear hfz51_0
      try clear hfz51_1
      try clear hfz51_2
      try clear hfz54_0
      try clear hfz54_1
      try clear hfz54_2
      try clear hfz6_0
      try clear hfz6_1
      try clear hfz6_2
      obtain ⟨kq, x44_11, rfl, HA, HJ11, HO_254002, HO_260002, HO_267002, BK240, BK253, BK259, BK266, HB, HK_⟩ := hcut
      cases kq with
      | zero => exact absurd HA.out (by simp [laws_FnExactMoveRoot.j0])
      | succ kj11 =>
        have H := HA.out
        clear HA
        simp only [laws_FnExactMoveRoot.j0] at H
        by_cases c56 : x44_11 = true
        · subst c56
          have H1 : (some false) = some true := by rw [if_pos rfl] at H; exact H
          cases H1
        · replace c56 := Bool.eq_false_iff.mpr c56
          subst c56
          have H1 : ((laws_toGauss.f kj11 a0_0 a0_1 l0_2).bind fun bt268 => ((laws_eqGauss.f kj11 t254 t255 t256 bt268.1 bt268.2.1 bt268.2.2).bind fun t273 => (if t273 = true then ((laws_markG_B.f t254 t255 t256 1).bind fun t274 => (if t274 < 0 then (laws_FnExactMoveRoot.j1 kj11 a1 t252 true a0_0 a0_1 l0_2 t247 t248 t249 t260 t261 t262) else ((laws_eqGauss.f kj11 t260 t261 t262 t247 t248 t249).bind fun t275 => (if t275 = true then (laws_FnExactMoveRoot.j1 kj11 a1 t252 (t265 != t252) a0_0 a0_1 l0_2 t247 t248 t249 t260 t261 t262) else (laws_FnExactMoveRoot.j1 kj11 a1 t252 true a0_0 a0_1 l0_2 t247 t248 t249 t260 t261 t262))))) else (some false)))) = some true := by rw [if_neg (show ¬ (false = true) by decide)] at H; exact H
          clear H
          have H := H1
          clear H1
          replace H := Option.bind_eq_some_iff.mp H
          obtain ⟨⟨t268, t269, t270⟩, A570, H⟩ := H
          replace H : ((laws_eqGauss.f kj11 t254 t255 t256 t268 t269 t270).bind fun t273 => (if t273 = true then ((laws_markG_B.f t254 t255 t256 1).bind fun t274 => (if t274 < 0 then (laws_FnExactMoveRoot.j1 kj11 a1 t252 true a0_0 a0_1 l0_2 t247 t248 t249 t260 t261 t262) else ((laws_eqGauss.f kj11 t260 t261 t262 t247 t248 t249).bind fun t275 => (if t275 = true then (laws_FnExactMoveRoot.j1 kj11 a1 t252 (t265 != t252) a0_0 a0_1 l0_2 t247 t248 t249 t260 t261 t262) else (laws_FnExactMoveRoot.j1 kj11 a1 t252 true a0_0 a0_1 l0_2 t247 t248 t249 t260 t261 t262))))) else (some false))) = some true := H
          have A57 := Aside0.mk A570
          clear A570
          replace H := Option.bind_eq_some_iff.mp H
          obtain ⟨t273, A580, H⟩ := H
          replace H : (if t273 = true then ((laws_markG_B.f t254 t255 t256 1).bind fun t274 => (if t274 < 0 then (laws_FnExactMoveRoot.j1 kj11 a1 t252 true a0_0 a0_1 l0_2 t247 t248 t249 t260 t261 t262) else ((laws_eqGauss.f kj11 t260 t261 t262 t247 t248 t249).bind fun t275 => (if t275 = true then (laws_FnExactMoveRoot.j1 kj11 a1 t252 (t265 != t252) a0_0 a0_1 l0_2 t247 t248 t249 t260 t261 t262) else (laws_FnExactMoveRoot.j1 kj11 a1 t252 true a0_0 a0_1 l0_2 t247 t248 t249 t260 t261 t262))))) else (some false)) = some true := H
          have A58 := Aside0.mk A580
          clear A580
          by_cases c59 : t273 = true
          · subst c59
            have H1 : ((laws_markG_B.f t254 t255 t256 1).bind fun t274 => (if t274 < 0 then (laws_FnExactMoveRoot.j1 kj11 a1 t252 true a0_0 a0_1 l0_2 t247 t248 t249 t260 t261 t262) else ((laws_eqGauss.f kj11 t260 t261 t262 t247 t248 t249).bind fun t275 => (if t275 = true then (laws_FnExactMoveRoot.j1 kj11 a1 t252 (t265 != t252) a0_0 a0_1 l0_2 t247 t248 t249 t260 t261 t262) else (laws_FnExactMoveRoot.j1 kj11 a1 t252 true a0_0 a0_1 l0_2 t247 t248 t249 t260 t261 t262))))) = some true := by rw [if_pos rfl] at H; exact H
            clear H
            have H := H1
            clear H1
            replace H := Option.bind_eq_some_iff.mp H
            obtain ⟨t274, A600, H⟩ := H
            replace H : (if t274 < 0 then (laws_FnExactMoveRoot.j1 kj11 a1 t252 true a0_0 a0_1 l0_2 t247 t248 t249 t260 t261 t262) else ((laws_eqGauss.f kj11 t260 t261 t262 t247 t248 t249).bind fun t275 => (if t275 = true then (laws_FnExactMoveRoot.j1 kj11 a1 t252 (t265 != t252) a0_0 a0_1 l0_2 t247 t248 t249 t260 t261 t262) else (laws_FnExactMoveRoot.j1 kj11 a1 t252 true a0_0 a0_1 l0_2 t247 t248 t249 t260 t261 t262)))) = some true := H
            have A60 := Aside0.mk A600
            clear A600
            have HC61 := Aside0.mk H
            clear H
            try go_wp2
            have n0_ := Aside0.mk (Kd.N_drew HO_254002.out)
            have n1_ := Aside0.mk (Kd.N_drew HO_260002.out)
            have n2_ := Aside0.mk (Kd.N_drew HO_267002.out)
            have n3_ := Aside0.mk (blk_drew BK240.out)
            have n4_ := Aside0.mk (blk_drew BK253.out)
            have n5_ := Aside0.mk (blk_drew BK259.out)
            have n6_ := Aside0.mk (blk_drew BK266.out)
            have n7_ := Aside0.mk (below_drew1 HB.out)
            have HKb_ := Aside0.mk (Kept.drew HK_.out)
            clear HK_
            have HK_ := HKb_
            clear HKb_
            clear HO_254002
            clear HO_260002
            clear HO_267002
            clear BK240
            clear BK253
            clear BK259
            clear BK266
            clear HB
            have HO_254002 := n0_
            have HO_260002 := n1_
            have HO_267002 := n2_
            have BK240 := n3_
            have BK253 := n4_
            have BK259 := n5_
            have BK266 := n6_
            have HB := n7_
            clear n0_ n1_ n2_ n3_ n4_ n5_ n6_ n7_
            refine start_ (n := 5) (S := fun w' => w'.cell? ⟨gb259, 0, none⟩ = some (.int .i64 t254) ∧ w'.cell? ⟨gb259, 1, none⟩ = some (.int .i64 t255) ∧ w'.cell? ⟨gb259, 2, none⟩ = some (.slice Ao30 t256.length co30) ∧ w'.cell? ⟨gb240, 0, none⟩ = some (.int .i64 a0_0) ∧ w'.cell? ⟨gb240, 1, none⟩ = some (.int .i64 a0_1) ∧ w'.cell? ⟨gb240, 2, none⟩ = some (.slice A0_2 l0_2.length c0_2)) (ds := []) #[false, false, false, false, false] (by kernel_rfl) rfl rfl ⟨(blk_cell BK259.out 0).trans rfl, (blk_cell BK259.out 1).trans rfl, (blk_cell BK259.out 2).trans rfl, (blk_cell BK240.out 0).trans rfl, (blk_cell BK240.out 1).trans rfl, (blk_cell BK240.out 2).trans rfl⟩ (fun hHeld => ?_)
            generalize wc.drew = w62 at HK_ HO_254002 HO_260002 HO_267002 BK240 BK253 BK259 BK266 HB hHeld ⊢
            refine take_ (i := 0) (N := some 45) (v := ?_) (a' := ?_) #[true, false, false, false, false] rfl rfl (by kernel_rfl) (fun _ _ _ h => h) (Or.inl ⟨by rfl, ?_⟩) hHeld ?_ ?_
            rotate_left
            · rintro w' ⟨s0, s1, s2, s3, s4, s5⟩
              go_simp
              with_reducible rfl
            rotate_left
            · simp only [Act.put, List.setIfInBounds_toArray, List.set_cons_zero, List.set_cons_succ, i64_w, i32_w]
              rfl
            refine take_ (i := 1) (N := some 46) (v := ?_) (a' := ?_) #[true, true, false, false, false] rfl rfl (by kernel_rfl) (fun _ _ _ h => h) (Or.inl ⟨by rfl, ?_⟩) hHeld ?_ ?_
            rotate_left
            · rintro w' ⟨s0, s1, s2, s3, s4, s5⟩
              go_simp
              with_reducible rfl
            rotate_left
            · simp only [Act.put, List.setIfInBounds_toArray, List.set_cons_zero, List.set_cons_succ, i64_w, i32_w]
              rfl
            refine one_ (i := 2) (N := some 47) #[true, true, true, false, false] rfl rfl (by kernel_rfl) (by decide) (fun K hK => ?_)
            refine goes_ Try.func25 (by kernel_rfl) rfl #[.agg #[.int .i64 a0_0, .int .i64 a0_1, .slice A0_2 l0_2.length c0_2]] (by rfl) rfl rfl qB37 ?_
            with_reducible refine (laws_toGauss.calls kj11 a0_0 a0_1 _ _ l0_2 t268 t269 t270 _ ?side1 ?side2 A57.out).mono ?_
            (case side1 => repeat (first | exact (Kd.C_below HR0_2.out HB.out) | (with_reducible refine Kd.C_alloc ?_ _) | (with_reducible refine Kd.C_drewN ?_ _) | (with_reducible refine Kd.C_drew ?_)))
            (case side2 => exact HC0_2.out)
            rintro e w63 ⟨v271, rfl, ho0, hb⟩
            refine ⟨_, rfl, ?_⟩
            have HKb_ := Aside0.mk (Kept.below (S := fun _ => False) qB67 hb)
            clear HK_
            have HK_ := HKb_
            clear HKb_
            have n0_ := Aside0.mk (Kd.N_elder' qB55 (Kd.S_base ho0) hb)
            have n1_ := Aside0.mk (Kd.N_elder' qB56 (Kd.S_base ho0) hb)
            have n2_ := Aside0.mk (Kd.N_elder' qB57 (Kd.S_base ho0) hb)
            have n3_ := Aside0.mk (Kd.N_lower (Kd.N_mono (ok' := fun k_ => some k_ ≠ (.slice Ao23 t249.length co23 : Value).ownBlock ∧ some k_ ≠ (.slice Ao30 t256.length co30 : Value).ownBlock ∧ some k_ ≠ (.slice Ao37 t262.length co37 : Value).ownBlock ∧ k_ ≠ gb240 ∧ k_ ≠ gb253 ∧ k_ ≠ gb259 ∧ k_ ≠ gb266) (Kd.S_N (Kd.S_bound ho0)) (fun k_ hk_ => ⟨(Kd.fresh' (Kd.N_lt qB55) k_ hk_.2.1), (Kd.fresh' (Kd.N_lt qB56) k_ hk_.2.1), (Kd.fresh' (Kd.N_lt qB57) k_ hk_.2.1), (Kd.freshB (g := gb240) (o := .cells #[.int .i64 a0_0, .int .i64 a0_1, .slice A0_2 l0_2.length c0_2] 44 (0, 0)) qB51 k_ hk_.2.1), (Kd.freshB (g := gb253) (o := .cells #[.int .i64 t247, .int .i64 t248, .slice Ao23 t249.length co23] 28 (0, 0)) qB52 k_ hk_.2.1), (Kd.freshB (g := gb259) (o := .cells #[.int .i64 t254, .int .i64 t255, .slice Ao30 t256.length co30] 28 (0, 0)) qB53 k_ hk_.2.1), (Kd.freshB (g := gb266) (o := .cells #[.int .i64 t260, .int .i64 t261, .slice Ao37 t262.length co37] 28 (0, 0)) qB54 k_ hk_.2.1)⟩)) (below_size qB21))
            have n4_ := Aside0.mk (blk_below (g := gb240) (o := .cells #[.int .i64 a0_0, .int .i64 a0_1, .slice A0_2 l0_2.length c0_2] 44 (0, 0)) qB51 hb)
            have n5_ := Aside0.mk (blk_below (g := gb253) (o := .cells #[.int .i64 t247, .int .i64 t248, .slice Ao23 t249.length co23] 28 (0, 0)) qB52 hb)
            have n6_ := Aside0.mk (blk_below (g := gb259) (o := .cells #[.int .i64 t254, .int .i64 t255, .slice Ao30 t256.length co30] 28 (0, 0)) qB53 hb)
            have n7_ := Aside0.mk (blk_below (g := gb266) (o := .cells #[.int .i64 t260, .int .i64 t261, .slice Ao37 t262.length co37] 28 (0, 0)) qB54 hb)
            have n8_ := Aside0.mk (below_step qB21 hb)
            clear HO_254002
            clear HO_260002
            clear HO_267002
            clear BK240
            clear BK253
            clear BK259
            clear BK266
            clear HB
            have HO_254002 := n0_
            have HO_260002 := n1_
            have HO_267002 := n2_
            have HO272 := n3_
            have BK240 := n4_
            have BK253 := n5_
            have BK259 := n6_
            have BK266 := n7_
            have HB := n8_
            clear n0_ n1_ n2_ n3_ n4_ n5_ n6_ n7_ n8_
            (try clear hb)
            (try clear hb2)
            (try clear hk)
            (try clear hi)
            (try clear ho0)
            obtain ⟨Ao64, co64, eo64⟩ := Kd.N_slice HO272.out
            (first | subst eo64 | (injection eo64 with f1_ f2_ f3_; have f4_ := f1_.symm; have f5_ := f3_.symm; clear f1_ f2_ f3_; subst f4_; subst f5_))
            refine hK.out _ _ ⟨(blk_cell BK259.out 0).trans rfl, (blk_cell BK259.out 1).trans rfl, (blk_cell BK259.out 2).trans rfl, (blk_cell BK240.out 0).trans rfl, (blk_cell BK240.out 1).trans rfl, (blk_cell BK240.out 2).trans rfl⟩ (fun hHeld => ?_)
            clear hK K
            refine norm_ (a' := ?_) ?_ ?_
            rotate_left
            · show Act.put _ (some 47) _ = _
              simp only [Act.put, List.setIfInBounds_toArray, List.set_cons_zero, List.set_cons_succ, i64_w, i32_w]
              rfl
            refine one_ (i := 3) (N := some 48) #[true, true, true, true, false] rfl rfl (by kernel_rfl) (by decide) (fun K hK => ?_)
            refine goes_ Try.func15 (by kernel_rfl) rfl #[.agg #[.int .i64 t254, .int .i64 t255, .slice Ao30 t256.length co30], .agg #[.int .i64 t268, .int .i64 t269, .slice Ao64 t270.length co64]] (by rfl) rfl rfl qB37 ?_
            with_reducible refine (laws_eqGauss.calls kj11 t254 t255 _ _ t256 t268 t269 _ _ t270 true _ ?side1 ?side2 ?side3 ?side4 A58.out).mono ?_
            (case side1 => repeat (first | exact (Kd.N_reads' HO_260002.out).2.2 | (with_reducible refine Kd.C_alloc ?_ _) | (with_reducible refine Kd.C_drewN ?_ _) | (with_reducible refine Kd.C_drew ?_)))
            (case side2 => exact (Kd.N_reads' HO_260002.out).2.1)
            (case side3 => repeat (first | exact (Kd.N_reads' HO272.out).2.2 | (with_reducible refine Kd.C_alloc ?_ _) | (with_reducible refine Kd.C_drewN ?_ _) | (with_reducible refine Kd.C_drew ?_)))
            (case side4 => exact (Kd.N_reads' HO272.out).2.1)
            rintro e w65 ⟨rfl, hb⟩
            refine ⟨_, rfl, ?_⟩
            have HKb_ := Aside0.mk (Kept.below (S := fun _ => False) qB67 hb)
            clear HK_
            have HK_ := HKb_
            clear HKb_
            have n0_ := Aside0.mk (Kd.N_below qB55 hb)
            have n1_ := Aside0.mk (Kd.N_below qB56 hb)
            have n2_ := Aside0.mk (Kd.N_below qB57 hb)
            have n3_ := Aside0.mk (Kd.N_below qB62 hb)
            have n4_ := Aside0.mk (blk_below (g := gb240) (o := .cells #[.int .i64 a0_0, .int .i64 a0_1, .slice A0_2 l0_2.length c0_2] 44 (0, 0)) qB51 hb)
            have n5_ := Aside0.mk (blk_below (g := gb253) (o := .cells #[.int .i64 t247, .int .i64 t248, .slice Ao23 t249.length co23] 28 (0, 0)) qB52 hb)
            have n6_ := Aside0.mk (blk_below (g := gb259) (o := .cells #[.int .i64 t254, .int .i64 t255, .slice Ao30 t256.length co30] 28 (0, 0)) qB53 hb)
            have n7_ := Aside0.mk (blk_below (g := gb266) (o := .cells #[.int .i64 t260, .int .i64 t261, .slice Ao37 t262.length co37] 28 (0, 0)) qB54 hb)
            have n8_ := Aside0.mk (below_step qB21 hb)
            clear HO_254002
            clear HO_260002
            clear HO_267002
            clear HO272
            clear BK240
            clear BK253
            clear BK259
            clear BK266
            clear HB
            have HO_254002 := n0_
            have HO_260002 := n1_
            have HO_267002 := n2_
            have HO272 := n3_
            have BK240 := n4_
            have BK253 := n5_
            have BK259 := n6_
            have BK266 := n7_
            have HB := n8_
            clear n0_ n1_ n2_ n3_ n4_ n5_ n6_ n7_ n8_
            (try clear hb)
            (try clear hb2)
            (try clear hk)
            (try clear hi)
            refine hK.out _ _ ⟨(blk_cell BK259.out 0).trans rfl, (blk_cell BK259.out 1).trans rfl, (blk_cell BK259.out 2).trans rfl, (blk_cell BK240.out 0).trans rfl, (blk_cell BK240.out 1).trans rfl, (blk_cell BK240.out 2).trans rfl⟩ (fun hHeld => ?_)
            clear hK K
            refine norm_ (a' := ?_) ?_ ?_
            rotate_left
            · show Act.put _ (some 48) _ = _
              simp only [Act.put, List.setIfInBounds_toArray, List.set_cons_zero, List.set_cons_succ, i64_w, i32_w]
              rfl
            refine pure_ (i := 4) (N := some 49) (v := ?_) (a' := ?_) #[true, true, true, true, true] rfl rfl (by kernel_rfl) (fun _ _ _ h => h) (Or.inl ⟨by rfl, ?_⟩) ?_ ?_
            rotate_left
            · intro w'
              go_simp
              with_reducible rfl
            rotate_left
            · simp only [Act.put, List.setIfInBounds_toArray, List.set_cons_zero, List.set_cons_succ, i64_w, i32_w]
              rfl
            refine done_ (by kernel_rfl) ?_
            have hnb66 := NB259_240.out
            have hnc66 := NB240_259.out
            have hnb67 := NB259_253.out
            have hnc67 := NB253_259.out
            have hnb68 := NB259_266.out
            have hnc68 := NB266_259.out
            have hcz69_0 : w65.cell? ⟨gb259, 0, none⟩ = some (.int .i64 t254) := (blk_cell BK259.out 0).trans rfl
            have hcz69_1 : w65.cell? ⟨gb259, 1, none⟩ = some (.int .i64 t255) := (blk_cell BK259.out 1).trans rfl
            have hcz69_2 : w65.cell? ⟨gb259, 2, none⟩ = some (.slice Ao30 t256.length co30) := (blk_cell BK259.out 2).trans rfl
            have hfz69_0 := blk_frozen BK259.out 0
            have hfz69_1 := blk_frozen BK259.out 1
            have hfz69_2 := blk_frozen BK259.out 2
            go_upto_region 14 with (first | ((with_reducible refine gate_callee (f := 18) rfl ?_); refine goesL_ (some 52) rfl rfl Try.func18 (by kernel_rfl) rfl #[.agg #[.int .i64 t254, .int .i64 t255, .slice Ao30 t256.length co30], .int .i64 1] rfl qB37 ?_; refine (gt_mark1 A60.out qB21 HT2_ qB67).mono ?_; rintro e w70 ⟨rfl, hb2_, hg_, hk_⟩; refine ⟨_, rfl, ?_⟩; have HT3_ := hg_; obtain ⟨q0_, q1_, q2_, q3_, q4_, hN0_, hS1_, hS2_⟩ := hg_; have ho0_ := hN0_.1; have ho1_ := (Kd.S_R hS1_).1; have ho2_ := (Kd.S_R hS2_).1; have ggb240_ := GLgb240_.out; have ggb253_ := GLgb253_.out; have gX_ := GX_.out; have gX2_ := GX2_.out; have gG_ := GG_.out; have gM_ := M1s_.out; have n0_ : Aside0 (Kd.N (Kd.slice 2 (Kd.int .i64)) 22 w70 w.heap.size (fun k_ => (some k_ ≠ (.slice Ao30 t256.length co30 : Value).ownBlock ∧ some k_ ≠ (.slice Ao37 t262.length co37 : Value).ownBlock ∧ k_ ≠ gb240 ∧ k_ ≠ gb253 ∧ k_ ≠ gb259 ∧ k_ ≠ gb266) ∧ True) (.slice Ao23 t249.length co23) t249) := ⟨Kd.N_mono hN0_ (by intro k hk; have a1_ := hk.1.1; have a2_ := hk.1.2; have a3_ := hk.2; refine ⟨⟨?_, ?_, ?_, ?_, ?_, ?_⟩, ?_⟩ <;> (first | exact trivial | exact a1_ | exact a2_ | (intro e_; have h_ := ho1_ k e_.symm; omega) | (intro e_; have h_ := ho2_ k e_.symm; omega) | (intro e_; have h_ := (ho0_ k e_.symm).2; omega) | (intro e_; omega)))⟩; have n1_ : Aside0 (Kd.N (Kd.slice 2 (Kd.int .i64)) 22 w70 w.heap.size (fun k_ => (some k_ ≠ (.slice Ao23 t249.length co23 : Value).ownBlock ∧ some k_ ≠ (.slice Ao37 t262.length co37 : Value).ownBlock ∧ k_ ≠ gb240 ∧ k_ ≠ gb253 ∧ k_ ≠ gb259 ∧ k_ ≠ gb266) ∧ True) (.slice Ao30 t256.length co30) (nMarkS t256 1).2) := ⟨Kd.N_mono (Kd.S_N hS1_) qB18⟩; have n2_ : Aside0 (Kd.N (Kd.slice 2 (Kd.int .i64)) 22 w70 w.heap.size (fun k_ => (some k_ ≠ (.slice Ao23 t249.length co23 : Value).ownBlock ∧ some k_ ≠ (.slice Ao30 t256.length co30 : Value).ownBlock ∧ k_ ≠ gb240 ∧ k_ ≠ gb253 ∧ k_ ≠ gb259 ∧ k_ ≠ gb266) ∧ True) (.slice Ao37 t262.length co37) t262) := ⟨Kd.N_mono (Kd.S_N hS2_) qB18⟩; have n3_ := Aside0.mk (Kd.N_nil (Kd.slice 2 (Kd.int .i64)) 22 w70 w.heap.size (fun _ => True)); have n4_ := Aside0.mk (nMarkG_B (g := gb240) (cs := #[.int .i64 a0_0, .int .i64 a0_1, .slice A0_2 l0_2.length c0_2]) (t := 44) hk_ qB51 (by decide)); have n5_ := Aside0.mk (nMarkG_B (g := gb253) (cs := #[.int .i64 t247, .int .i64 t248, .slice Ao23 t249.length co23]) (t := 28) hk_ qB52 (by decide)); have n6_ := Aside0.mk (nMarkG_B (g := gb259) (cs := #[.int .i64 t254, .int .i64 t255, .slice Ao30 t256.length co30]) (t := 28) hk_ qB53 (by decide)); have n7_ := Aside0.mk (nMarkG_B (g := gb266) (cs := #[.int .i64 t260, .int .i64 t261, .slice Ao37 t262.length co37]) (t := 28) hk_ qB54 (by decide)); have n8_ := Aside0.mk hb2_; clear HO_254002; clear HO_260002; clear HO_267002; clear HO272; clear BK240; clear BK253; clear BK259; clear BK266; clear HB; have HO_254002 := n0_; have HO_260002 := n1_; have HO_267002 := n2_; have HO272 := n3_; have BK240 := n4_; have BK253 := n5_; have BK259 := n6_; have BK266 := n7_; have HB := n8_; clear n0_ n1_ n2_ n3_ n4_ n5_ n6_ n7_ n8_; clear HK_; have HK_ := Aside0.mk (Kept.refl w70 (fun _ => False)); clear hb2_ hk_ q0_ q1_ q2_ q3_ q4_ hN0_ hS1_ hS2_ ho0_ ho1_ ho2_ ggb240_ ggb253_ gX_ gX2_ gG_ gM_; (try clear hb2); (try clear hk); (try clear hi)))
            (try simp only [Act.put, List.setIfInBounds_toArray, List.set_cons_zero, List.set_cons_succ])
            go_cut [65] (fun v65 wc => ∃ (kq : Nat) (x65_60 : Bool), v65 = .bool x65_60 ∧ Aside0 (laws_FnExactMoveRoot.j1 kq a1 t252 x65_60 a0_0 a0_1 l0_2 t247 t248 t249 t260 t261 t262 = some true) ∧ Aside0 (kq ≤ kj11) ∧ Aside0 (Kd.N (Kd.slice 2 (Kd.int .i64)) 22 wc w.heap.size (fun k_ => some k_ ≠ ((.slice Ao30 t256.length co30) : Value).ownBlock ∧ some k_ ≠ ((.slice Ao37 t262.length co37) : Value).ownBlock ∧ k_ ≠ gb240 ∧ k_ ≠ gb253 ∧ k_ ≠ gb259 ∧ k_ ≠ gb266) (.slice Ao23 t249.length co23) t249) ∧ Aside0 (Kd.N (Kd.slice 2 (Kd.int .i64)) 22 wc w.heap.size (fun k_ => some k_ ≠ ((.slice Ao23 t249.length co23) : Value).ownBlock ∧ some k_ ≠ ((.slice Ao37 t262.length co37) : Value).ownBlock ∧ k_ ≠ gb240 ∧ k_ ≠ gb253 ∧ k_ ≠ gb259 ∧ k_ ≠ gb266) (.slice Ao30 t256.length co30) (nMarkS t256 1).2) ∧ Aside0 (Kd.N (Kd.slice 2 (Kd.int .i64)) 22 wc w.heap.size (fun k_ => some k_ ≠ ((.slice Ao23 t249.length co23) : Value).ownBlock ∧ some k_ ≠ ((.slice Ao30 t256.length co30) : Value).ownBlock ∧ k_ ≠ gb240 ∧ k_ ≠ gb253 ∧ k_ ≠ gb259 ∧ k_ ≠ gb266) (.slice Ao37 t262.length co37) t262) ∧ Aside0 (wc.heap[gb240]? = some (.cells #[.int .i64 a0_0, .int .i64 a0_1, (.slice A0_2 l0_2.length c0_2)] 44 (0, 0))) ∧ Aside0 (wc.heap[gb253]? = some (.cells #[.int .i64 t247, .int .i64 t248, (.slice Ao23 t249.length co23)] 28 (0, 0))) ∧ Aside0 (wc.heap[gb259]? = some (.cells #[.int .i64 t254, .int .i64 t255, (.slice Ao30 t256.length co30)] 28 (0, 0))) ∧ Aside0 (wc.heap[gb266]? = some (.cells #[.int .i64 t260, .int .i64 t261, (.slice Ao37 t262.length co37)] 28 (0, 0))) ∧ Aside0 (Below w.heap.size w wc) ∧ Aside0 (Kept w70 wc (fun _ => False)))
            case first =>
              have H := HC61.out
              clear HC61
              by_cases c71 : t274 < 0
              · rw [if_pos c71] at H
                exact (laws_FnExactMoveRoot.j1_no _ _ _ _ _ _ _ _ _ _ _ _ H).elim
              · rw [if_neg c71] at H
                have c71b0 : decide (t274 < 0) = false := decide_eq_false c71
                clear c71
                (first | rw [c71b0] | (simp only [i64_w, i32_w]; rw [c71b0]) | skip)
                replace H := Option.bind_eq_some_iff.mp H
                obtain ⟨t275, A720, H⟩ := H
                replace H : (if t275 = true then (laws_FnExactMoveRoot.j1 kj11 a1 t252 (t265 != t252) a0_0 a0_1 l0_2 t247 t248 t249 t260 t261 t262) else (laws_FnExactMoveRoot.j1 kj11 a1 t252 true a0_0 a0_1 l0_2 t247 t248 t249 t260 t261 t262)) = some true := H
                have A72 := Aside0.mk A720
                clear A720
                by_cases c73 : t275 = true
                · subst c73
                  have H1 : (laws_FnExactMoveRoot.j1 kj11 a1 t252 (t265 != t252) a0_0 a0_1 l0_2 t247 t248 t249 t260 t261 t262) = some true := by rw [if_pos rfl] at H; exact H
                  clear H
                  have H := H1
                  clear H1
                  have H' := Aside0.mk H
                  clear H
                  have hnb74 := NB266_240.out
                  have hnc74 := NB240_266.out
                  have hnb75 := NB266_253.out
                  have hnc75 := NB253_266.out
                  have hnb76 := NB266_259.out
                  have hnc76 := NB259_266.out
                  have hcz77_0 : w70.cell? ⟨gb266, 0, none⟩ = some (.int .i64 t260) := (blk_cell BK266.out 0).trans rfl
                  have hcz77_1 : w70.cell? ⟨gb266, 1, none⟩ = some (.int .i64 t261) := (blk_cell BK266.out 1).trans rfl
                  have hcz77_2 : w70.cell? ⟨gb266, 2, none⟩ = some (.slice Ao37 t262.length co37) := (blk_cell BK266.out 2).trans rfl
                  have hfz77_0 := blk_frozen BK266.out 0
                  have hfz77_1 := blk_frozen BK266.out 1
                  have hfz77_2 := blk_frozen BK266.out 2
                  have hnb78 := NB253_240.out
                  have hnc78 := NB240_253.out
                  have hnb79 := NB253_259.out
                  have hnc79 := NB259_253.out
                  have hcz80_0 : w70.cell? ⟨gb253, 0, none⟩ = some (.int .i64 t247) := (blk_cell BK253.out 0).trans rfl
                  have hcz80_1 : w70.cell? ⟨gb253, 1, none⟩ = some (.int .i64 t248) := (blk_cell BK253.out 1).trans rfl
                  have hcz80_2 : w70.cell? ⟨gb253, 2, none⟩ = some (.slice Ao23 t249.length co23) := (blk_cell BK253.out 2).trans rfl
                  have hfz80_0 := blk_frozen BK253.out 0
                  have hfz80_1 := blk_frozen BK253.out 1
                  have hfz80_2 := blk_frozen BK253.out 2
                  go_wp2_with (first | (go_at_call 15; (with_reducible refine (laws_eqGauss.calls kj11 t260 t261 _ _ t262 t247 t248 _ _ t249 true _ ?side1 ?side2 ?side3 ?side4 A72.out).mono ?_); (case side1 => repeat (first | exact (Kd.N_reads' HO_267002.out).2.2 | (with_reducible refine Kd.C_alloc ?_ _) | (with_reducible refine Kd.C_drewN ?_ _) | (with_reducible refine Kd.C_drew ?_))); (case side2 => exact (Kd.N_reads' HO_267002.out).2.1); (case side3 => repeat (first | exact (Kd.N_reads' HO_254002.out).2.2 | (with_reducible refine Kd.C_alloc ?_ _) | (with_reducible refine Kd.C_drewN ?_ _) | (with_reducible refine Kd.C_drew ?_))); (case side4 => exact (Kd.N_reads' HO_254002.out).2.1); rintro e w81 ⟨rfl, hb⟩; have HKb_ := Aside0.mk (Kept.below (S := fun _ => False) qB67 hb); clear HK_; have HK_ := HKb_; clear HKb_; have n0_ := Aside0.mk (Kd.N_below qB55 hb); have n1_ := Aside0.mk (Kd.N_below qB56 hb); have n2_ := Aside0.mk (Kd.N_below qB57 hb); have n3_ := Aside0.mk (Kd.N_below qB62 hb); have n4_ := Aside0.mk (blk_below (g := gb240) (o := .cells #[.int .i64 a0_0, .int .i64 a0_1, .slice A0_2 l0_2.length c0_2] 44 (0, 0)) qB51 hb); have n5_ := Aside0.mk (blk_below (g := gb253) (o := .cells #[.int .i64 t247, .int .i64 t248, .slice Ao23 t249.length co23] 28 (0, 0)) qB52 hb); have n6_ := Aside0.mk (blk_below (g := gb259) (o := .cells #[.int .i64 t254, .int .i64 t255, .slice Ao30 t256.length co30] 28 (0, 0)) qB53 hb); have n7_ := Aside0.mk (blk_below (g := gb266) (o := .cells #[.int .i64 t260, .int .i64 t261, .slice Ao37 t262.length co37] 28 (0, 0)) qB54 hb); have n8_ := Aside0.mk (below_step qB21 hb); clear HO_254002; clear HO_260002; clear HO_267002; clear HO272; clear BK240; clear BK253; clear BK259; clear BK266; clear HB; have HO_254002 := n0_; have HO_260002 := n1_; have HO_267002 := n2_; have HO272 := n3_; have BK240 := n4_; have BK253 := n5_; have BK259 := n6_; have BK266 := n7_; have HB := n8_; clear n0_ n1_ n2_ n3_ n4_ n5_ n6_ n7_ n8_; (try clear hb); (try clear hb2); (try clear hk); (try clear hi)))
                  go_meet
                  case rel => exact ⟨_, ((t265 != t252)), qB71, H', ⟨by have := HJ11.out; first | omega | exact Nat.le_refl _⟩, ⟨by (with_reducible repeat (first | apply Kd.N_alloc | apply Kd.N_drewN | apply Kd.N_drew)); exact Kd.N_mono HO_254002.out (fun _ hk => ⟨hk.1.1, ⟨hk.1.2.1, ⟨hk.1.2.2.1, ⟨hk.1.2.2.2.1, ⟨hk.1.2.2.2.2.1, hk.1.2.2.2.2.2⟩⟩⟩⟩⟩)⟩, ⟨by (with_reducible repeat (first | apply Kd.N_alloc | apply Kd.N_drewN | apply Kd.N_drew)); exact Kd.N_mono HO_260002.out (fun _ hk => ⟨hk.1.1, ⟨hk.1.2.1, ⟨hk.1.2.2.1, ⟨hk.1.2.2.2.1, ⟨hk.1.2.2.2.2.1, hk.1.2.2.2.2.2⟩⟩⟩⟩⟩)⟩, ⟨by (with_reducible repeat (first | apply Kd.N_alloc | apply Kd.N_drewN | apply Kd.N_drew)); exact Kd.N_mono HO_267002.out (fun _ hk => ⟨hk.1.1, ⟨hk.1.2.1, ⟨hk.1.2.2.1, ⟨hk.1.2.2.2.1, ⟨hk.1.2.2.2.2.1, hk.1.2.2.2.2.2⟩⟩⟩⟩⟩)⟩, ⟨by (with_reducible repeat (first | refine blk_drewN ?_ _ | refine blk_drew ?_ | refine blk_alloc ?_ _)); exact BK240.out⟩, ⟨by (with_reducible repeat (first | refine blk_drewN ?_ _ | refine blk_drew ?_ | refine blk_alloc ?_ _)); exact BK253.out⟩, ⟨by (with_reducible repeat (first | refine blk_drewN ?_ _ | refine blk_drew ?_ | refine blk_alloc ?_ _)); exact BK259.out⟩, ⟨by (with_reducible repeat (first | refine blk_drewN ?_ _ | refine blk_drew ?_ | refine blk_alloc ?_ _)); exact BK266.out⟩, ⟨by repeat (first | (with_reducible first | exact HB.out | apply below_alloc | apply pw_below_drewN | apply below_drew1 | refine below_set ?_ GE240.out | refine below_set ?_ GE253.out | refine below_set ?_ GE259.out | refine below_set ?_ GE266.out) | exact HB.out)⟩, ⟨by (with_reducible repeat (first | apply Kept.alloc | apply Kept.drewN | apply Kept.drew)); exact HK_.out⟩⟩
                · replace c73 := Bool.eq_false_iff.mpr c73
                  subst c73
                  have H1 : (laws_FnExactMoveRoot.j1 kj11 a1 t252 true a0_0 a0_1 l0_2 t247 t248 t249 t260 t261 t262) = some true := by rw [if_neg (show ¬ (false = true) by decide)] at H; exact H
                  exact (laws_FnExactMoveRoot.j1_no _ _ _ _ _ _ _ _ _ _ _ _ H1).elim
            case rest =>
              clear HC61
              try clear c1
              try clear c2
              try clear p2
              try clear c3
              try clear c4
              try clear c4b0
              try clear c5
              try clear c6
              try clear c7
              try clear c8
              try clear c14
              try clear c15
              try clear c21
              try clear c23
              try clear c24
              try clear c25
              try clear c26
              try clear c27
              try clear c28
              try clear c33
              try clear c34
              try clear c35
              try clear c39
              try clear c40
              try clear c41
              try clear c42
              try clear c44
              try clear c45
              try clear c48
              try clear c49
              try clear c50
              try clear c52
              try clear c53
              try clear c56
              try clear c59
              try clear c66
              try clear c67
              try clear c68
              try clear c71
              try clear c71b0
              try clear c73
              try clear c74
              try clear c75
              try clear c76
              try clear c78
              try clear c79
              try clear c82
              try clear c83
              try clear c84
              try clear c86
              try clear c87
              try clear hcz14_0
              try clear hcz14_1
              try clear hcz14_2
              try clear hcz16_0
              try clear hcz16_1
              try clear hcz16_2
              try clear hcz22_0
              try clear hcz22_1
              try clear hcz22_2
              try clear hcz24_0
              try clear hcz24_1
              try clear hcz24_2
              try clear hcz29_0
              try clear hcz29_1
              try clear hcz29_2
              try clear hcz36_0
              try clear hcz36_1
              try clear hcz36_2
              try clear hcz43_0
              try clear hcz43_1
              try clear hcz43_2
              try clear hcz46_0
              try clear hcz46_1
              try clear hcz46_2
              try clear hcz51_0
              try clear hcz51_1
              try clear hcz51_2
              try clear hcz54_0
              try clear hcz54_1
              try clear hcz54_2
              try clear hcz69_0
              try clear hcz69_1
              try clear hcz69_2
              try clear hcz6_0
              try clear hcz6_1
              try clear hcz6_2
              try clear hcz77_0
              try clear hcz77_1
              try clear hcz77_2
              try clear hcz80_0
              try clear hcz80_1
              try clear hcz80_2
              try clear hcz85_0
              try clear hcz85_1
              try clear hcz85_2
              try clear hcz88_0
              try clear hcz88_1
              try clear hcz88_2
              try clear hfz14_0
              try clear hfz14_1
              try clear hfz14_2
              try clear hfz16_0
              try clear hfz16_1
              try clear hfz16_2
              try clear hfz22_0
              try clear hfz22_1
              try clear hfz22_2
              try clear hfz24_0
              try clear hfz24_1
              try clear hfz24_2
              try clear hfz29_0
              try clear hfz29_1
              try clear hfz29_2
              try clear hfz36_0
              try clear hfz36_1
              try clear hfz36_2
              try clear hfz43_0
              try clear hfz43_1
              try clear hfz43_2
              try clear hfz46_0
              try clear hfz46_1
              try clear hfz46_2
              try clear hfz51_0
              try clear hfz51_1
              try clear hfz51_2
              try clear hfz54_0
              try clear hfz54_1
              try clear hfz54_2
              try clear hfz69_0
              try clear hfz69_1
              try clear hfz69_2
              try clear hfz6_0
              try clear hfz6_1
              try clear hfz6_2
              try clear hfz77_0
              try clear hfz77_1
              try clear hfz77_2
              try clear hfz80_0
              try clear hfz80_1
              try clear hfz80_2
              try clear hfz85_0
              try clear hfz85_1
              try clear hfz85_2
              try clear hfz88_0
              try clear hfz88_1
              try clear hfz88_2
              try clear p2
              obtain ⟨kq, x65_60, rfl, HA, HJ60, HO_254002, HO_260002, HO_267002, BK240, BK253, BK259, BK266, HB, HK_⟩ := hcut
              cases kq with
              | zero => exact absurd HA.out (by simp [laws_FnExactMoveRoot.j1])
              | succ kj60 =>
                have H := HA.out
                clear HA
                simp only [laws_FnExactMoveRoot.j1] at H
                by_cases c90 : x65_60 = true
                · subst c90
                  have H1 : (some false) = some true := by rw [if_pos rfl] at H; exact H
                  cases H1
                · replace c90 := Bool.eq_false_iff.mpr c90
                  subst c90
                  have H1 : ((laws_markSG_B.f t262 1).bind fun t276 => ((laws_markSG_A.f t262 1).bind fun t277 => ((laws_heldGauss.f kj60 t260 t261 t277 1).bind fun t280 => (if t280 < 0 then (some false) else (if t280 = t276 then ((laws_toGauss.f kj60 a0_0 a0_1 l0_2).bind fun bt281 => ((impl_MoveRoot.f kj60 bt281.1 bt281.2.1 bt281.2.2 a1).bind fun bt286 => ((laws_eqGauss.f kj60 bt286.1 bt286.2.1 bt286.2.2.1 t247 t248 t249).bind fun t293 => (if t293 = true then (laws_FnExactMoveRoot.j2 kj60 t276 (bt286.2.2.2 != t252) t260 t261 t277) else (laws_FnExactMoveRoot.j2 kj60 t276 true t260 t261 t277))))) else (some false)))))) = some true := by rw [if_neg (show ¬ (false = true) by decide)] at H; exact H
                  clear H
                  have H := H1
                  clear H1
                  replace H := Option.bind_eq_some_iff.mp H
                  obtain ⟨t276, A910, H⟩ := H
                  replace H : ((laws_markSG_A.f t262 1).bind fun t277 => ((laws_heldGauss.f kj60 t260 t261 t277 1).bind fun t280 => (if t280 < 0 then (some false) else (if t280 = t276 then ((laws_toGauss.f kj60 a0_0 a0_1 l0_2).bind fun bt281 => ((impl_MoveRoot.f kj60 bt281.1 bt281.2.1 bt281.2.2 a1).bind fun bt286 => ((laws_eqGauss.f kj60 bt286.1 bt286.2.1 bt286.2.2.1 t247 t248 t249).bind fun t293 => (if t293 = true then (laws_FnExactMoveRoot.j2 kj60 t276 (bt286.2.2.2 != t252) t260 t261 t277) else (laws_FnExactMoveRoot.j2 kj60 t276 true t260 t261 t277))))) else (some false))))) = some true := H
                  have A91 := Aside0.mk A910
                  clear A910
                  replace H := Option.bind_eq_some_iff.mp H
                  obtain ⟨t277, A920, H⟩ := H
                  replace H : ((laws_heldGauss.f kj60 t260 t261 t277 1).bind fun t280 => (if t280 < 0 then (some false) else (if t280 = t276 then ((laws_toGauss.f kj60 a0_0 a0_1 l0_2).bind fun bt281 => ((impl_MoveRoot.f kj60 bt281.1 bt281.2.1 bt281.2.2 a1).bind fun bt286 => ((laws_eqGauss.f kj60 bt286.1 bt286.2.1 bt286.2.2.1 t247 t248 t249).bind fun t293 => (if t293 = true then (laws_FnExactMoveRoot.j2 kj60 t276 (bt286.2.2.2 != t252) t260 t261 t277) else (laws_FnExactMoveRoot.j2 kj60 t276 true t260 t261 t277))))) else (some false)))) = some true := H
                  have A92 := Aside0.mk A920
                  clear A920
                  replace H := Option.bind_eq_some_iff.mp H
                  obtain ⟨t280, A930, H⟩ := H
                  replace H : (if t280 < 0 then (some false) else (if t280 = t276 then ((laws_toGauss.f kj60 a0_0 a0_1 l0_2).bind fun bt281 => ((impl_MoveRoot.f kj60 bt281.1 bt281.2.1 bt281.2.2 a1).bind fun bt286 => ((laws_eqGauss.f kj60 bt286.1 bt286.2.1 bt286.2.2.1 t247 t248 t249).bind fun t293 => (if t293 = true then (laws_FnExactMoveRoot.j2 kj60 t276 (bt286.2.2.2 != t252) t260 t261 t277) else (laws_FnExactMoveRoot.j2 kj60 t276 true t260 t261 t277))))) else (some false))) = some true := H
                  have A93 := Aside0.mk A930
                  clear A930
                  by_cases c94 : t280 < 0
                  · rw [if_pos c94] at H
                    cases H
                  · rw [if_neg c94] at H
                    have c94b0 : decide (t280 < 0) = false := decide_eq_false c94
                    clear c94
                    by_cases c103 : t280 = t276
                    · rw [if_pos c103] at H
                      have c103b0 : (t280 == t276) = true := beq_iff_eq.mpr c103
                      have c103b1 : (t280 != t276) = false := bne_eq_false_iff_eq.mpr c103
                      clear c103
                      replace H := Option.bind_eq_some_iff.mp H
                      obtain ⟨⟨t281, t282, t283⟩, A1040, H⟩ := H
                      replace H : ((impl_MoveRoot.f kj60 t281 t282 t283 a1).bind fun bt286 => ((laws_eqGauss.f kj60 bt286.1 bt286.2.1 bt286.2.2.1 t247 t248 t249).bind fun t293 => (if t293 = true then (laws_FnExactMoveRoot.j2 kj60 t276 (bt286.2.2.2 != t252) t260 t261 t277) else (laws_FnExactMoveRoot.j2 kj60 t276 true t260 t261 t277)))) = some true := H
                      have A104 := Aside0.mk A1040
                      clear A1040
                      replace H := Option.bind_eq_some_iff.mp H
                      obtain ⟨⟨t286, t287, t288, t291⟩, A1050, H⟩ := H
                      replace H : ((laws_eqGauss.f kj60 t286 t287 t288 t247 t248 t249).bind fun t293 => (if t293 = true then (laws_FnExactMoveRoot.j2 kj60 t276 (t291 != t252) t260 t261 t277) else (laws_FnExactMoveRoot.j2 kj60 t276 true t260 t261 t277))) = some true := H
                      have A105 := Aside0.mk A1050
                      clear A1050
                      have HC106 := Aside0.mk H
                      clear H
                      have hnb107 := NB266_240.out
                      have hnc107 := NB240_266.out
                      have hnb108 := NB266_253.out
                      have hnc108 := NB253_266.out
                      have hnb109 := NB266_259.out
                      have hnc109 := NB259_266.out
                      have hcz110_0 : wc.cell? ⟨gb266, 0, none⟩ = some (.int .i64 t260) := (blk_cell BK266.out 0).trans rfl
                      have hcz110_1 : wc.cell? ⟨gb266, 1, none⟩ = some (.int .i64 t261) := (blk_cell BK266.out 1).trans rfl
                      have hcz110_2 : wc.cell? ⟨gb266, 2, none⟩ = some (.slice Ao37 t262.length co37) := (blk_cell BK266.out 2).trans rfl
                      have hfz110_0 := blk_frozen BK266.out 0
                      have hfz110_1 := blk_frozen BK266.out 1
                      have hfz110_2 := blk_frozen BK266.out 2
                      go_upto_region 25 with (first | ((with_reducible refine gate_callee (f := 18) rfl ?_); refine goesL_ (some 68) rfl rfl Try.func18 (by kernel_rfl) rfl #[.agg #[.int .i64 t260, .int .i64 t261, .slice Ao37 t262.length co37], .int .i64 1] rfl qB37 ?_; refine (gt_mark2 A91.out A92.out qB21 HT3_ qB67).mono ?_; rintro e w111 ⟨rfl, hb2_, hg_, hk_⟩; refine ⟨_, rfl, ?_⟩; obtain ⟨v278, hv_⟩ : ∃ v_ : Value, v_ = .slice Ao37 t262.length co37 := ⟨_, rfl⟩; obtain ⟨q0_, q1_, q2_, q3_, q4_, hN0_, hS1_, hS2_⟩ := hg_; have ho0_ := hN0_.1; have ho1_ := (Kd.S_R hS1_).1; have ho2_ := (Kd.S_R hS2_).1; have ggb240_ := GLgb240_.out; have ggb253_ := GLgb253_.out; have gX_ := GX_.out; have gX2_ := GX2_.out; have gG_ := GG_.out; have gM_ := M1s_.out; have n0_ : Aside0 (Kd.N (Kd.slice 2 (Kd.int .i64)) 22 w111 w.heap.size (fun k_ => (some k_ ≠ (.slice Ao30 t256.length co30 : Value).ownBlock ∧ some k_ ≠ (.slice Ao37 t262.length co37 : Value).ownBlock ∧ k_ ≠ gb240 ∧ k_ ≠ gb253 ∧ k_ ≠ gb259 ∧ k_ ≠ gb266) ∧ some k_ ≠ (v278 : Value).ownBlock) (.slice Ao23 t249.length co23) t249) := ⟨Kd.N_mono hN0_ (by intro k hk; have a1_ := hk.1.1; have a2_ := hk.1.2; have a3_ := hk.2; refine ⟨⟨?_, ?_, ?_, ?_, ?_, ?_⟩, ?_⟩ <;> (first | exact trivial | exact a1_ | exact a2_ | (intro e_; have h_ := ho1_ k e_.symm; omega) | (intro e_; have h_ := ho2_ k e_.symm; omega) | (intro e_; have h_ := (ho0_ k e_.symm).2; omega) | (intro e_; omega) | (intro e_; rw [hv_] at e_; have h_ := ho2_ k e_.symm; omega)))⟩; have n1_ : Aside0 (Kd.N (Kd.slice 2 (Kd.int .i64)) 22 w111 w.heap.size (fun k_ => (some k_ ≠ (.slice Ao23 t249.length co23 : Value).ownBlock ∧ some k_ ≠ (.slice Ao37 t262.length co37 : Value).ownBlock ∧ k_ ≠ gb240 ∧ k_ ≠ gb253 ∧ k_ ≠ gb259 ∧ k_ ≠ gb266) ∧ some k_ ≠ (v278 : Value).ownBlock) (.slice Ao30 t256.length co30) (nMarkS t256 1).2) := ⟨Kd.N_mono (Kd.S_N hS1_) qB17⟩; have n2_ : Aside0 (Kd.N (Kd.slice 2 (Kd.int .i64)) 22 w111 w.heap.size (fun k_ => (some k_ ≠ (.slice Ao23 t249.length co23 : Value).ownBlock ∧ some k_ ≠ (.slice Ao30 t256.length co30 : Value).ownBlock ∧ k_ ≠ gb240 ∧ k_ ≠ gb253 ∧ k_ ≠ gb259 ∧ k_ ≠ gb266) ∧ True) (.slice Ao37 t262.length co37) t277) := ⟨Kd.N_mono (Kd.S_N hS2_) qB17⟩; have n3_ : Aside0 (Kd.N (Kd.slice 2 (Kd.int .i64)) 22 w111 w.heap.size (fun k_ => some k_ ≠ (.slice Ao23 t249.length co23 : Value).ownBlock ∧ some k_ ≠ (.slice Ao30 t256.length co30 : Value).ownBlock ∧ True ∧ k_ ≠ gb240 ∧ k_ ≠ gb253 ∧ k_ ≠ gb259 ∧ k_ ≠ gb266) v278 t277) := ⟨by rw [hv_]; exact Kd.N_mono (Kd.S_N hS2_) (by intro k hk; have a1_ := hk.1; have a2_ := hk.2; refine ⟨?_, ?_, ?_, ?_, ?_, ?_, ?_⟩ <;> (first | exact trivial | exact a1_ | exact a2_ | (intro e_; have h_ := ho1_ k e_.symm; omega) | (intro e_; have h_ := ho2_ k e_.symm; omega) | (intro e_; have h_ := (ho0_ k e_.symm).2; omega) | (intro e_; omega) | (intro e_; rw [hv_] at e_; have h_ := ho2_ k e_.symm; omega)))⟩; have n4_ := Aside0.mk (nMarkG_B (g := gb240) (cs := #[.int .i64 a0_0, .int .i64 a0_1, .slice A0_2 l0_2.length c0_2]) (t := 44) hk_ qB51 (by decide)); have n5_ := Aside0.mk (nMarkG_B (g := gb253) (cs := #[.int .i64 t247, .int .i64 t248, .slice Ao23 t249.length co23]) (t := 28) hk_ qB52 (by decide)); have n6_ := Aside0.mk (nMarkG_B (g := gb259) (cs := #[.int .i64 t254, .int .i64 t255, .slice Ao30 t256.length co30]) (t := 28) hk_ qB53 (by decide)); have n7_ := Aside0.mk (nMarkG_B (g := gb266) (cs := #[.int .i64 t260, .int .i64 t261, .slice Ao37 t262.length co37]) (t := 28) hk_ qB54 (by decide)); have n8_ := Aside0.mk hb2_; clear HO_254002; clear HO_260002; clear HO_267002; clear BK240; clear BK253; clear BK259; clear BK266; clear HB; have HO_254002 := n0_; have HO_260002 := n1_; have HO_267002 := n2_; have HO279 := n3_; have BK240 := n4_; have BK253 := n5_; have BK259 := n6_; have BK266 := n7_; have HB := n8_; clear n0_ n1_ n2_ n3_ n4_ n5_ n6_ n7_ n8_; clear HK_ hb2_ hk_ q0_ q1_ q2_ q3_ q4_ hN0_ hS1_ hS2_ ho0_ ho1_ ho2_ ggb240_ ggb253_ gX_ gX2_ gG_ gM_; (try clear hb2); (try clear hk); (try clear hi); (try clear ho0); obtain ⟨Ao112, co112, eo112⟩ := Kd.N_slice HO279.out; subst eo112; have hcz113_0 : w111.cell? ⟨gb266, 0, none⟩ = some (.int .i64 t260) := (blk_cell BK266.out 0).trans rfl; have hcz113_1 : w111.cell? ⟨gb266, 1, none⟩ = some (.int .i64 t261) := (blk_cell BK266.out 1).trans rfl; have hcz113_2 : w111.cell? ⟨gb266, 2, none⟩ = some (.slice Ao37 t262.length co37) := (blk_cell BK266.out 2).trans rfl; have hfz113_0 := blk_frozen BK266.out 0; have hfz113_1 := blk_frozen BK266.out 1; have hfz113_2 := blk_frozen BK266.out 2; rw [show w111 = w111.setCell ⟨gb266, 2, none⟩ (.slice Ao112 t277.length co112) from (same_cell BK266.out (by rw [hv_]; rfl)).symm]; clear hv_) | ((with_reducible refine gate_callee (f := 19) rfl ?_); refine goesL_ (some 71) rfl rfl Try.func19 (by kernel_rfl) rfl #[.agg #[.int .i64 t260, .int .i64 t261, .slice Ao112 t277.length co112], .int .i64 1] rfl qB37 ?_; (with_reducible refine (laws_heldGauss.calls kj60 t260 t261 _ _ t277 1 t280 _ ?side1 ?side2 A93.out).mono ?_); (case side1 => refine (Kd.N_reads' (e := 22) (base := w.heap.size) (ok := fun k_ => (some k_ ≠ (.slice Ao23 t249.length co23 : Value).ownBlock ∧ (some k_ ≠ (.slice Ao30 t256.length co30 : Value).ownBlock ∧ (True ∧ (k_ ≠ gb240 ∧ (k_ ≠ gb253 ∧ (k_ ≠ gb259 ∧ k_ ≠ gb266))))))) (n := t277.length) (c := co112) ?_).2.2; exact qB20); (case side2 => exact (Kd.N_reads' HO279.out).2.1); rintro e w114 ⟨rfl, hb⟩; refine ⟨_, rfl, ?_⟩; have n0_ := Aside0.mk (Kd.N_below (by (with_reducible repeat (first | apply Kd.N_alloc | apply Kd.N_drewN | apply Kd.N_drew)); exact (Kd.N_mono (Kd.N_far (p := ⟨gb266, 2, none⟩) (Kd.N_mono HO_254002.out (fun k_ hk => (⟨hk, hk.1.2.2.2.2.2⟩ : _ ∧ k_ ≠ gb266))) (fun _ hk => hk.2) (.slice Ao112 t277.length co112)) (fun _ h_ => h_.1))) hb); have n1_ := Aside0.mk (Kd.N_below (by (with_reducible repeat (first | apply Kd.N_alloc | apply Kd.N_drewN | apply Kd.N_drew)); exact (Kd.N_mono (Kd.N_far (p := ⟨gb266, 2, none⟩) (Kd.N_mono HO_260002.out (fun k_ hk => (⟨hk, hk.1.2.2.2.2.2⟩ : _ ∧ k_ ≠ gb266))) (fun _ hk => hk.2) (.slice Ao112 t277.length co112)) (fun _ h_ => h_.1))) hb); have n2_ := Aside0.mk (Kd.N_below (by (with_reducible repeat (first | apply Kd.N_alloc | apply Kd.N_drewN | apply Kd.N_drew)); exact (Kd.N_mono (Kd.N_far (p := ⟨gb266, 2, none⟩) (Kd.N_mono HO_267002.out (fun k_ hk => (⟨hk, hk.1.2.2.2.2.2⟩ : _ ∧ k_ ≠ gb266))) (fun _ hk => hk.2) (.slice Ao112 t277.length co112)) (fun _ h_ => h_.1))) hb); have n3_ := Aside0.mk (Kd.N_below qB20 hb); have n4_ := Aside0.mk (blk_below (g := gb240) (o := .cells #[.int .i64 a0_0, .int .i64 a0_1, .slice A0_2 l0_2.length c0_2] 44 (0, 0)) (by (with_reducible repeat (first | refine blk_drewN ?_ _ | refine blk_drew ?_ | refine blk_alloc ?_ _)); refine blk_far ?_ NB240_266.out _; (with_reducible repeat (first | refine blk_drewN ?_ _ | refine blk_drew ?_ | refine blk_alloc ?_ _)); exact BK240.out) hb); have n5_ := Aside0.mk (blk_below (g := gb253) (o := .cells #[.int .i64 t247, .int .i64 t248, .slice Ao23 t249.length co23] 28 (0, 0)) (by (with_reducible repeat (first | refine blk_drewN ?_ _ | refine blk_drew ?_ | refine blk_alloc ?_ _)); refine blk_far ?_ NB253_266.out _; (with_reducible repeat (first | refine blk_drewN ?_ _ | refine blk_drew ?_ | refine blk_alloc ?_ _)); exact BK253.out) hb); have n6_ := Aside0.mk (blk_below (g := gb259) (o := .cells #[.int .i64 t254, .int .i64 t255, .slice Ao30 t256.length co30] 28 (0, 0)) (by (with_reducible repeat (first | refine blk_drewN ?_ _ | refine blk_drew ?_ | refine blk_alloc ?_ _)); refine blk_far ?_ NB259_266.out _; (with_reducible repeat (first | refine blk_drewN ?_ _ | refine blk_drew ?_ | refine blk_alloc ?_ _)); exact BK259.out) hb); have n7_ := Aside0.mk (blk_below (g := gb266) (o := .cells #[.int .i64 t260, .int .i64 t261, .slice Ao112 t277.length co112] 28 (0, 0)) (by (with_reducible repeat (first | refine blk_drewN ?_ _ | refine blk_drew ?_ | refine blk_alloc ?_ _)); refine blk_put (cs := #[.int .i64 t260, .int .i64 t261, .slice Ao37 t262.length co37]) ?_ 2 _ rfl; (with_reducible repeat (first | refine blk_drewN ?_ _ | refine blk_drew ?_ | refine blk_alloc ?_ _)); exact BK266.out) hb); have n8_ := Aside0.mk (below_step qB21 hb); clear HO_254002; clear HO_260002; clear HO_267002; clear HO279; clear BK240; clear BK253; clear BK259; clear BK266; clear HB; have HO_254002 := n0_; have HO_260002 := n1_; have HO_267002 := n2_; have HO279 := n3_; have BK240 := n4_; have BK253 := n5_; have BK259 := n6_; have BK266 := n7_; have HB := n8_; clear n0_ n1_ n2_ n3_ n4_ n5_ n6_ n7_ n8_; (try clear hb); (try clear hb2); (try clear hk); (try clear hi); have hnb115 := NB240_253.out; have hnc115 := NB253_240.out; have hnb116 := NB240_259.out; have hnc116 := NB259_240.out; have hcz117_0 : w114.cell? ⟨gb240, 0, none⟩ = some (.int .i64 a0_0) := (blk_cell BK240.out 0).trans rfl; have hcz117_1 : w114.cell? ⟨gb240, 1, none⟩ = some (.int .i64 a0_1) := (blk_cell BK240.out 1).trans rfl; have hcz117_2 : w114.cell? ⟨gb240, 2, none⟩ = some (.slice A0_2 l0_2.length c0_2) := (blk_cell BK240.out 2).trans rfl; have hfz117_0 := blk_frozen BK240.out 0; have hfz117_1 := blk_frozen BK240.out 1; have hfz117_2 := blk_frozen BK240.out 2) | ((with_reducible refine gate_callee (f := 25) rfl ?_); refine goesL_ (some 79) rfl rfl Try.func25 (by kernel_rfl) rfl #[.agg #[.int .i64 a0_0, .int .i64 a0_1, .slice A0_2 l0_2.length c0_2]] rfl qB37 ?_; (with_reducible refine (laws_toGauss.calls kj60 a0_0 a0_1 _ _ l0_2 t281 t282 t283 _ ?side1 ?side2 A104.out).mono ?_); (case side1 => repeat (first | exact (Kd.C_below HR0_2.out HB.out) | (with_reducible refine Kd.C_alloc ?_ _) | (with_reducible refine Kd.C_drewN ?_ _) | (with_reducible refine Kd.C_drew ?_))); (case side2 => exact HC0_2.out); rintro e w118 ⟨v284, rfl, ho0, hb⟩; refine ⟨_, rfl, ?_⟩; have n0_ := Aside0.mk (Kd.N_elder' qB55 (Kd.S_base ho0) hb); have n1_ := Aside0.mk (Kd.N_elder' qB56 (Kd.S_base ho0) hb); have n2_ := Aside0.mk (Kd.N_elder' qB57 (Kd.S_base ho0) hb); have n3_ := Aside0.mk (Kd.N_elder' qB63 (Kd.S_base ho0) hb); have n4_ := Aside0.mk (Kd.N_lower (Kd.N_mono (ok' := fun k_ => some k_ ≠ (.slice Ao23 t249.length co23 : Value).ownBlock ∧ some k_ ≠ (.slice Ao30 t256.length co30 : Value).ownBlock ∧ some k_ ≠ (.slice Ao37 t262.length co37 : Value).ownBlock ∧ some k_ ≠ (.slice Ao112 t277.length co112 : Value).ownBlock ∧ k_ ≠ gb240 ∧ k_ ≠ gb253 ∧ k_ ≠ gb259 ∧ k_ ≠ gb266) (Kd.S_N (Kd.S_bound ho0)) (fun k_ hk_ => ⟨(Kd.fresh' (Kd.N_lt qB55) k_ hk_.2.1), (Kd.fresh' (Kd.N_lt qB56) k_ hk_.2.1), (Kd.fresh' (Kd.N_lt qB57) k_ hk_.2.1), (Kd.fresh' (Kd.N_lt qB63) k_ hk_.2.1), (Kd.freshB (g := gb240) (o := .cells #[.int .i64 a0_0, .int .i64 a0_1, .slice A0_2 l0_2.length c0_2] 44 (0, 0)) qB51 k_ hk_.2.1), (Kd.freshB (g := gb253) (o := .cells #[.int .i64 t247, .int .i64 t248, .slice Ao23 t249.length co23] 28 (0, 0)) qB52 k_ hk_.2.1), (Kd.freshB (g := gb259) (o := .cells #[.int .i64 t254, .int .i64 t255, .slice Ao30 t256.length co30] 28 (0, 0)) qB53 k_ hk_.2.1), (Kd.freshB (g := gb266) (o := .cells #[.int .i64 t260, .int .i64 t261, .slice Ao112 t277.length co112] 28 (0, 0)) qB54 k_ hk_.2.1)⟩)) (below_size qB21)); have n5_ := Aside0.mk (blk_below (g := gb240) (o := .cells #[.int .i64 a0_0, .int .i64 a0_1, .slice A0_2 l0_2.length c0_2] 44 (0, 0)) qB51 hb); have n6_ := Aside0.mk (blk_below (g := gb253) (o := .cells #[.int .i64 t247, .int .i64 t248, .slice Ao23 t249.length co23] 28 (0, 0)) qB52 hb); have n7_ := Aside0.mk (blk_below (g := gb259) (o := .cells #[.int .i64 t254, .int .i64 t255, .slice Ao30 t256.length co30] 28 (0, 0)) qB53 hb); have n8_ := Aside0.mk (blk_below (g := gb266) (o := .cells #[.int .i64 t260, .int .i64 t261, .slice Ao112 t277.length co112] 28 (0, 0)) qB54 hb); have n9_ := Aside0.mk (below_step qB21 hb); clear HO_254002; clear HO_260002; clear HO_267002; clear HO279; clear BK240; clear BK253; clear BK259; clear BK266; clear HB; have HO_254002 := n0_; have HO_260002 := n1_; have HO_267002 := n2_; have HO279 := n3_; have HO285 := n4_; have BK240 := n5_; have BK253 := n6_; have BK259 := n7_; have BK266 := n8_; have HB := n9_; clear n0_ n1_ n2_ n3_ n4_ n5_ n6_ n7_ n8_ n9_; (try clear hb); (try clear hb2); (try clear hk); (try clear hi); (try clear ho0); obtain ⟨Ao119, co119, eo119⟩ := Kd.N_slice HO285.out; subst eo119) | ((with_reducible refine gate_callee (f := 26) rfl ?_); refine goesL_ (some 81) rfl rfl Try.func26 (by kernel_rfl) rfl #[.agg #[.int .i64 t281, .int .i64 t282, .slice Ao119 t283.length co119], .int .i64 a1] rfl qB37 ?_; (with_reducible refine (impl_MoveRoot.calls kj60 t281 t282 _ _ t283 a1 t286 t287 t288 t291 _ ?side1 ?side2 A105.out).mono ?_); (case side1 => repeat (first | exact (Kd.N_reads' HO285.out).2.2 | (with_reducible refine Kd.C_alloc ?_ _) | (with_reducible refine Kd.C_drewN ?_ _) | (with_reducible refine Kd.C_drew ?_))); (case side2 => exact (Kd.N_reads' HO285.out).2.1); rintro e w120 ⟨v289, rfl, ho0, hb⟩; refine ⟨_, rfl, ?_⟩; have n0_ := Aside0.mk (Kd.N_elder' qB55 (Kd.S_base ho0) hb); have n1_ := Aside0.mk (Kd.N_elder' qB56 (Kd.S_base ho0) hb); have n2_ := Aside0.mk (Kd.N_elder' qB57 (Kd.S_base ho0) hb); have n3_ := Aside0.mk (Kd.N_elder' qB63 (Kd.S_base ho0) hb); have n4_ := Aside0.mk (Kd.N_elder' qB64 (Kd.S_base ho0) hb); have n5_ := Aside0.mk (Kd.N_lower (Kd.N_mono (ok' := fun k_ => some k_ ≠ (.slice Ao23 t249.length co23 : Value).ownBlock ∧ some k_ ≠ (.slice Ao30 t256.length co30 : Value).ownBlock ∧ some k_ ≠ (.slice Ao37 t262.length co37 : Value).ownBlock ∧ some k_ ≠ (.slice Ao112 t277.length co112 : Value).ownBlock ∧ some k_ ≠ (.slice Ao119 t283.length co119 : Value).ownBlock ∧ k_ ≠ gb240 ∧ k_ ≠ gb253 ∧ k_ ≠ gb259 ∧ k_ ≠ gb266) (Kd.S_N (Kd.S_bound ho0)) (fun k_ hk_ => ⟨(Kd.fresh' (Kd.N_lt qB55) k_ hk_.2.1), (Kd.fresh' (Kd.N_lt qB56) k_ hk_.2.1), (Kd.fresh' (Kd.N_lt qB57) k_ hk_.2.1), (Kd.fresh' (Kd.N_lt qB63) k_ hk_.2.1), (Kd.fresh' (Kd.N_lt qB64) k_ hk_.2.1), (Kd.freshB (g := gb240) (o := .cells #[.int .i64 a0_0, .int .i64 a0_1, .slice A0_2 l0_2.length c0_2] 44 (0, 0)) qB51 k_ hk_.2.1), (Kd.freshB (g := gb253) (o := .cells #[.int .i64 t247, .int .i64 t248, .slice Ao23 t249.length co23] 28 (0, 0)) qB52 k_ hk_.2.1), (Kd.freshB (g := gb259) (o := .cells #[.int .i64 t254, .int .i64 t255, .slice Ao30 t256.length co30] 28 (0, 0)) qB53 k_ hk_.2.1), (Kd.freshB (g := gb266) (o := .cells #[.int .i64 t260, .int .i64 t261, .slice Ao112 t277.length co112] 28 (0, 0)) qB54 k_ hk_.2.1)⟩)) (below_size qB21)); have n6_ := Aside0.mk (blk_below (g := gb240) (o := .cells #[.int .i64 a0_0, .int .i64 a0_1, .slice A0_2 l0_2.length c0_2] 44 (0, 0)) qB51 hb); have n7_ := Aside0.mk (blk_below (g := gb253) (o := .cells #[.int .i64 t247, .int .i64 t248, .slice Ao23 t249.length co23] 28 (0, 0)) qB52 hb); have n8_ := Aside0.mk (blk_below (g := gb259) (o := .cells #[.int .i64 t254, .int .i64 t255, .slice Ao30 t256.length co30] 28 (0, 0)) qB53 hb); have n9_ := Aside0.mk (blk_below (g := gb266) (o := .cells #[.int .i64 t260, .int .i64 t261, .slice Ao112 t277.length co112] 28 (0, 0)) qB54 hb); have n10_ := Aside0.mk (below_step qB21 hb); clear HO_254002; clear HO_260002; clear HO_267002; clear HO279; clear HO285; clear BK240; clear BK253; clear BK259; clear BK266; clear HB; have HO_254002 := n0_; have HO_260002 := n1_; have HO_267002 := n2_; have HO279 := n3_; have HO285 := n4_; have HO290 := n5_; have BK240 := n6_; have BK253 := n7_; have BK259 := n8_; have BK266 := n9_; have HB := n10_; clear n0_ n1_ n2_ n3_ n4_ n5_ n6_ n7_ n8_ n9_ n10_; (try clear hb); (try clear hb2); (try clear hk); (try clear hi); (try clear ho0)) | ((with_reducible refine gate_dst (N := 14) rfl ?_); refine box_event ?hg (N := 14) ?hd (cs := #[.int .i64 0, .int .i64 0, .slice none 0 0]) (t := 28) ?hr ?_; (case hd => rfl); (case hg => rfl); (case hr => first | (go_simp; done) | (go_simp; rfl)); intro gb292 hg w121 hbox hb; have n0_ := Aside0.mk (Kd.N_below (Kd.N_elderB qB55 gb292 (Nat.le_of_eq hg.symm)) hb); have n1_ := Aside0.mk (Kd.N_below (Kd.N_elderB qB56 gb292 (Nat.le_of_eq hg.symm)) hb); have n2_ := Aside0.mk (Kd.N_below (Kd.N_elderB qB57 gb292 (Nat.le_of_eq hg.symm)) hb); have n3_ := Aside0.mk (Kd.N_below (Kd.N_elderB qB63 gb292 (Nat.le_of_eq hg.symm)) hb); have n4_ := Aside0.mk (Kd.N_below (Kd.N_elderB qB64 gb292 (Nat.le_of_eq hg.symm)) hb); have n5_ := Aside0.mk (Kd.N_below (Kd.N_elderB (by (with_reducible repeat (first | apply Kd.N_alloc | apply Kd.N_drewN | apply Kd.N_drew)); exact HO290.out) gb292 (Nat.le_of_eq hg.symm)) hb); have n6_ := Aside0.mk (blk_below (g := gb240) (o := .cells #[.int .i64 a0_0, .int .i64 a0_1, .slice A0_2 l0_2.length c0_2] 44 (0, 0)) qB51 hb); have n7_ := Aside0.mk (blk_below (g := gb253) (o := .cells #[.int .i64 t247, .int .i64 t248, .slice Ao23 t249.length co23] 28 (0, 0)) qB52 hb); have n8_ := Aside0.mk (blk_below (g := gb259) (o := .cells #[.int .i64 t254, .int .i64 t255, .slice Ao30 t256.length co30] 28 (0, 0)) qB53 hb); have n9_ := Aside0.mk (blk_below (g := gb266) (o := .cells #[.int .i64 t260, .int .i64 t261, .slice Ao112 t277.length co112] 28 (0, 0)) qB54 hb); have n10_ := Aside0.mk (below_step qB21 hb); have n11_ := Aside0.mk (hbox); have n12_ := Aside0.mk ((by rw [hg]; exact (below_size qB21) : w.heap.size ≤ gb292)); have n13_ := Aside0.mk ((by rw [hg]; exact (below_size qB21) : w.heap.size ≤ gb292)); have n14_ := Aside0.mk ((by rw [hg]; exact Nat.ne_of_lt (blk_lt (g := gb240) (o := .cells #[.int .i64 a0_0, .int .i64 a0_1, .slice A0_2 l0_2.length c0_2] 44 (0, 0)) qB51) : gb240 ≠ gb292)); have n15_ := Aside0.mk ((by rw [hg]; exact Nat.ne_of_gt (blk_lt (g := gb240) (o := .cells #[.int .i64 a0_0, .int .i64 a0_1, .slice A0_2 l0_2.length c0_2] 44 (0, 0)) qB51) : gb292 ≠ gb240)); have n16_ := Aside0.mk ((by rw [hg]; exact Nat.ne_of_lt (blk_lt (g := gb253) (o := .cells #[.int .i64 t247, .int .i64 t248, .slice Ao23 t249.length co23] 28 (0, 0)) qB52) : gb253 ≠ gb292)); have n17_ := Aside0.mk ((by rw [hg]; exact Nat.ne_of_gt (blk_lt (g := gb253) (o := .cells #[.int .i64 t247, .int .i64 t248, .slice Ao23 t249.length co23] 28 (0, 0)) qB52) : gb292 ≠ gb253)); have n18_ := Aside0.mk ((by rw [hg]; exact Nat.ne_of_lt (blk_lt (g := gb259) (o := .cells #[.int .i64 t254, .int .i64 t255, .slice Ao30 t256.length co30] 28 (0, 0)) qB53) : gb259 ≠ gb292)); have n19_ := Aside0.mk ((by rw [hg]; exact Nat.ne_of_gt (blk_lt (g := gb259) (o := .cells #[.int .i64 t254, .int .i64 t255, .slice Ao30 t256.length co30] 28 (0, 0)) qB53) : gb292 ≠ gb259)); have n20_ := Aside0.mk ((by rw [hg]; exact Nat.ne_of_lt (blk_lt (g := gb266) (o := .cells #[.int .i64 t260, .int .i64 t261, .slice Ao112 t277.length co112] 28 (0, 0)) qB54) : gb266 ≠ gb292)); have n21_ := Aside0.mk ((by rw [hg]; exact Nat.ne_of_gt (blk_lt (g := gb266) (o := .cells #[.int .i64 t260, .int .i64 t261, .slice Ao112 t277.length co112] 28 (0, 0)) qB54) : gb292 ≠ gb266)); clear HO_254002; clear HO_260002; clear HO_267002; clear HO279; clear HO285; clear HO290; clear BK240; clear BK253; clear BK259; clear BK266; clear HB; have HO_254002 := n0_; have HO_260002 := n1_; have HO_267002 := n2_; have HO279 := n3_; have HO285 := n4_; have HO290 := n5_; have BK240 := n6_; have BK253 := n7_; have BK259 := n8_; have BK266 := n9_; have HB := n10_; have BK292 := n11_; have GW292 := n12_; have GE292 := n13_; have NB240_292 := n14_; have NB292_240 := n15_; have NB253_292 := n16_; have NB292_253 := n17_; have NB259_292 := n18_; have NB292_259 := n19_; have NB266_292 := n20_; have NB292_266 := n21_; clear n0_ n1_ n2_ n3_ n4_ n5_ n6_ n7_ n8_ n9_ n10_ n11_ n12_ n13_ n14_ n15_ n16_ n17_ n18_ n19_ n20_ n21_; clear hb hbox hg; have hnb122 := NB292_240.out; have hnc122 := NB240_292.out; have hnb123 := NB292_253.out; have hnc123 := NB253_292.out; have hnb124 := NB292_259.out; have hnc124 := NB259_292.out; have hnb125 := NB292_266.out; have hnc125 := NB266_292.out; have hcz126_0 : w121.cell? ⟨gb292, 0, none⟩ = some (.int .i64 0) := (blk_cell BK292.out 0).trans rfl; have hcz126_1 : w121.cell? ⟨gb292, 1, none⟩ = some (.int .i64 0) := (blk_cell BK292.out 1).trans rfl; have hcz126_2 : w121.cell? ⟨gb292, 2, none⟩ = some (.slice none 0 0) := (blk_cell BK292.out 2).trans rfl; have hfz126_0 := blk_frozen BK292.out 0; have hfz126_1 := blk_frozen BK292.out 1; have hfz126_2 := blk_frozen BK292.out 2; obtain ⟨Ao127, co127, eo127⟩ := Kd.N_slice HO290.out; subst eo127))
                      (try simp only [Act.put, List.setIfInBounds_toArray, List.set_cons_zero, List.set_cons_succ])
                      go_cut [92] (fun v92 wc => ∃ (kq : Nat) (x92_105 : Bool), v92 = .bool x92_105 ∧ Aside0 (laws_FnExactMoveRoot.j2 kq t276 x92_105 t260 t261 t277 = some true) ∧ Aside0 (kq ≤ kj60) ∧ Aside0 (Kd.N (Kd.slice 2 (Kd.int .i64)) 22 wc w.heap.size (fun k_ => some k_ ≠ ((.slice Ao30 t256.length co30) : Value).ownBlock ∧ some k_ ≠ ((.slice Ao112 t277.length co112) : Value).ownBlock ∧ some k_ ≠ ((.slice Ao127 t288.length co127) : Value).ownBlock ∧ k_ ≠ gb240 ∧ k_ ≠ gb253 ∧ k_ ≠ gb259 ∧ k_ ≠ gb266 ∧ k_ ≠ gb292) (.slice Ao23 t249.length co23) t249) ∧ Aside0 (Kd.N (Kd.slice 2 (Kd.int .i64)) 22 wc w.heap.size (fun k_ => some k_ ≠ ((.slice Ao23 t249.length co23) : Value).ownBlock ∧ some k_ ≠ ((.slice Ao112 t277.length co112) : Value).ownBlock ∧ some k_ ≠ ((.slice Ao127 t288.length co127) : Value).ownBlock ∧ k_ ≠ gb240 ∧ k_ ≠ gb253 ∧ k_ ≠ gb259 ∧ k_ ≠ gb266 ∧ k_ ≠ gb292) (.slice Ao30 t256.length co30) (nMarkS t256 1).2) ∧ Aside0 (Kd.N (Kd.slice 2 (Kd.int .i64)) 22 wc w.heap.size (fun k_ => some k_ ≠ ((.slice Ao23 t249.length co23) : Value).ownBlock ∧ some k_ ≠ ((.slice Ao30 t256.length co30) : Value).ownBlock ∧ some k_ ≠ ((.slice Ao127 t288.length co127) : Value).ownBlock ∧ k_ ≠ gb240 ∧ k_ ≠ gb253 ∧ k_ ≠ gb259 ∧ k_ ≠ gb266 ∧ k_ ≠ gb292) (.slice Ao112 t277.length co112) t277) ∧ Aside0 (Kd.N (Kd.slice 2 (Kd.int .i64)) 22 wc w.heap.size (fun k_ => some k_ ≠ ((.slice Ao23 t249.length co23) : Value).ownBlock ∧ some k_ ≠ ((.slice Ao30 t256.length co30) : Value).ownBlock ∧ some k_ ≠ ((.slice Ao112 t277.length co112) : Value).ownBlock ∧ k_ ≠ gb240 ∧ k_ ≠ gb253 ∧ k_ ≠ gb259 ∧ k_ ≠ gb266 ∧ k_ ≠ gb292) (.slice Ao127 t288.length co127) t288) ∧ Aside0 (wc.heap[gb240]? = some (.cells #[.int .i64 a0_0, .int .i64 a0_1, (.slice A0_2 l0_2.length c0_2)] 44 (0, 0))) ∧ Aside0 (wc.heap[gb253]? = some (.cells #[.int .i64 t247, .int .i64 t248, (.slice Ao23 t249.length co23)] 28 (0, 0))) ∧ Aside0 (wc.heap[gb259]? = some (.cells #[.int .i64 t254, .int .i64 t255, (.slice Ao30 t256.length co30)] 28 (0, 0))) ∧ Aside0 (wc.heap[gb266]? = some (.cells #[.int .i64 t260, .int .i64 t261, (.slice Ao112 t277.length co112)] 28 (0, 0))) ∧ Aside0 (wc.heap[gb292]? = some (.cells #[.int .i64 t286, .int .i64 t287, (.slice Ao127 t288.length co127)] 28 (0, 0))) ∧ Aside0 (Below w.heap.size w wc))
                      case first =>
                        have H := HC106.out
                        clear HC106
                        replace H := Option.bind_eq_some_iff.mp H
                        obtain ⟨t293, A1280, H⟩ := H
                        replace H : (if t293 = true then (laws_FnExactMoveRoot.j2 kj60 t276 (t291 != t252) t260 t261 t277) else (laws_FnExactMoveRoot.j2 kj60 t276 true t260 t261 t277)) = some true := H
                        have A128 := Aside0.mk A1280
                        clear A1280
                        by_cases c129 : t293 = true
                        · subst c129
                          have H1 : (laws_FnExactMoveRoot.j2 kj60 t276 (t291 != t252) t260 t261 t277) = some true := by rw [if_pos rfl] at H; exact H
                          clear H
                          have H := H1
                          clear H1
                          have H' := Aside0.mk H
                          clear H
                          have hnb130 := NB292_240.out
                          have hnc130 := NB240_292.out
                          have hnb131 := NB292_253.out
                          have hnc131 := NB253_292.out
                          have hnb132 := NB292_259.out
                          have hnc132 := NB259_292.out
                          have hnb133 := NB292_266.out
                          have hnc133 := NB266_292.out
                          have hcz134_0 : w121.cell? ⟨gb292, 0, none⟩ = some (.int .i64 0) := (blk_cell BK292.out 0).trans rfl
                          have hcz134_1 : w121.cell? ⟨gb292, 1, none⟩ = some (.int .i64 0) := (blk_cell BK292.out 1).trans rfl
                          have hcz134_2 : w121.cell? ⟨gb292, 2, none⟩ = some (.slice none 0 0) := (blk_cell BK292.out 2).trans rfl
                          have hfz134_0 := blk_frozen BK292.out 0
                          have hfz134_1 := blk_frozen BK292.out 1
                          have hfz134_2 := blk_frozen BK292.out 2
                          have hnb135 := NB253_240.out
                          have hnc135 := NB240_253.out
                          have hnb136 := NB253_259.out
                          have hnc136 := NB259_253.out
                          have hnb137 := NB253_266.out
                          have hnc137 := NB266_253.out
                          have hcz138_0 : w121.cell? ⟨gb253, 0, none⟩ = some (.int .i64 t247) := (blk_cell BK253.out 0).trans rfl
                          have hcz138_1 : w121.cell? ⟨gb253, 1, none⟩ = some (.int .i64 t248) := (blk_cell BK253.out 1).trans rfl
                          have hcz138_2 : w121.cell? ⟨gb253, 2, none⟩ = some (.slice Ao23 t249.length co23) := (blk_cell BK253.out 2).trans rfl
                          have hfz138_0 := blk_frozen BK253.out 0
                          have hfz138_1 := blk_frozen BK253.out 1
                          have hfz138_2 := blk_frozen BK253.out 2
                          go_wp2_with (first | ((with_reducible refine gate_callee (f := 15) rfl ?_); refine goesL_ (some 86) rfl rfl Try.func15 (by kernel_rfl) rfl #[.agg #[.int .i64 t286, .int .i64 t287, .slice Ao127 t288.length co127], .agg #[.int .i64 t247, .int .i64 t248, .slice Ao23 t249.length co23]] rfl qB37 ?_; (with_reducible refine (laws_eqGauss.calls kj60 t286 t287 _ _ t288 t247 t248 _ _ t249 true _ ?side1 ?side2 ?side3 ?side4 A128.out).mono ?_); (case side1 => refine (Kd.N_reads' (e := 22) (base := w.heap.size) (ok := fun k_ => ((some k_ ≠ (.slice Ao23 t249.length co23 : Value).ownBlock ∧ (some k_ ≠ (.slice Ao30 t256.length co30 : Value).ownBlock ∧ (some k_ ≠ (.slice Ao37 t262.length co37 : Value).ownBlock ∧ (some k_ ≠ (.slice Ao112 t277.length co112 : Value).ownBlock ∧ (some k_ ≠ (.slice Ao119 t283.length co119 : Value).ownBlock ∧ (k_ ≠ gb240 ∧ (k_ ≠ gb253 ∧ (k_ ≠ gb259 ∧ k_ ≠ gb266)))))))) ∧ k_ ≠ gb292)) (n := t288.length) (c := co127) ?_).2.2; exact qB9); (case side2 => exact (Kd.N_reads' HO290.out).2.1); (case side3 => refine (Kd.N_reads' (e := 22) (base := w.heap.size) (ok := fun k_ => (((((some k_ ≠ (.slice Ao30 t256.length co30 : Value).ownBlock ∧ (some k_ ≠ (.slice Ao37 t262.length co37 : Value).ownBlock ∧ (k_ ≠ gb240 ∧ (k_ ≠ gb253 ∧ (k_ ≠ gb259 ∧ k_ ≠ gb266))))) ∧ some k_ ≠ (.slice Ao112 t277.length co112 : Value).ownBlock) ∧ some k_ ≠ (.slice Ao119 t283.length co119 : Value).ownBlock) ∧ some k_ ≠ (.slice Ao127 t288.length co127 : Value).ownBlock) ∧ k_ ≠ gb292)) (n := t249.length) (c := co23) ?_).2.2; exact qB8); (case side4 => exact (Kd.N_reads' HO_254002.out).2.1); rintro e w139 ⟨rfl, hb⟩; refine ⟨_, rfl, ?_⟩; have n0_ := Aside0.mk (Kd.N_below qB8 hb); have n1_ := Aside0.mk (Kd.N_below (by (with_reducible repeat (first | apply Kd.N_alloc | apply Kd.N_drewN | apply Kd.N_drew)); exact (Kd.N_mono (Kd.N_far (p := ⟨gb292, 2, none⟩) (Kd.N_far (p := ⟨gb292, 1, none⟩) (Kd.N_far (p := ⟨gb292, 0, none⟩) (Kd.N_mono HO_260002.out (fun k_ hk => (⟨hk, hk.2⟩ : _ ∧ k_ ≠ gb292))) (fun _ hk => hk.2) (.int .i64 t286)) (fun _ hk => hk.2) (.int .i64 t287)) (fun _ hk => hk.2) (.slice Ao127 t288.length co127)) (fun _ h_ => h_.1))) hb); have n2_ := Aside0.mk (Kd.N_below (by (with_reducible repeat (first | apply Kd.N_alloc | apply Kd.N_drewN | apply Kd.N_drew)); exact (Kd.N_mono (Kd.N_far (p := ⟨gb292, 2, none⟩) (Kd.N_far (p := ⟨gb292, 1, none⟩) (Kd.N_far (p := ⟨gb292, 0, none⟩) (Kd.N_mono HO_267002.out (fun k_ hk => (⟨hk, hk.2⟩ : _ ∧ k_ ≠ gb292))) (fun _ hk => hk.2) (.int .i64 t286)) (fun _ hk => hk.2) (.int .i64 t287)) (fun _ hk => hk.2) (.slice Ao127 t288.length co127)) (fun _ h_ => h_.1))) hb); have n3_ := Aside0.mk (Kd.N_below (by (with_reducible repeat (first | apply Kd.N_alloc | apply Kd.N_drewN | apply Kd.N_drew)); exact (Kd.N_mono (Kd.N_far (p := ⟨gb292, 2, none⟩) (Kd.N_far (p := ⟨gb292, 1, none⟩) (Kd.N_far (p := ⟨gb292, 0, none⟩) (Kd.N_mono HO279.out (fun k_ hk => (⟨hk, hk.2⟩ : _ ∧ k_ ≠ gb292))) (fun _ hk => hk.2) (.int .i64 t286)) (fun _ hk => hk.2) (.int .i64 t287)) (fun _ hk => hk.2) (.slice Ao127 t288.length co127)) (fun _ h_ => h_.1))) hb); have n4_ := Aside0.mk (Kd.N_below (by (with_reducible repeat (first | apply Kd.N_alloc | apply Kd.N_drewN | apply Kd.N_drew)); exact (Kd.N_mono (Kd.N_far (p := ⟨gb292, 2, none⟩) (Kd.N_far (p := ⟨gb292, 1, none⟩) (Kd.N_far (p := ⟨gb292, 0, none⟩) (Kd.N_mono HO285.out (fun k_ hk => (⟨hk, hk.2⟩ : _ ∧ k_ ≠ gb292))) (fun _ hk => hk.2) (.int .i64 t286)) (fun _ hk => hk.2) (.int .i64 t287)) (fun _ hk => hk.2) (.slice Ao127 t288.length co127)) (fun _ h_ => h_.1))) hb); have n5_ := Aside0.mk (Kd.N_below qB9 hb); have n6_ := Aside0.mk (blk_below (g := gb240) (o := .cells #[.int .i64 a0_0, .int .i64 a0_1, .slice A0_2 l0_2.length c0_2] 44 (0, 0)) (by (with_reducible repeat (first | refine blk_drewN ?_ _ | refine blk_drew ?_ | refine blk_alloc ?_ _)); refine blk_far ?_ NB240_292.out _; (with_reducible repeat (first | refine blk_drewN ?_ _ | refine blk_drew ?_ | refine blk_alloc ?_ _)); refine blk_far ?_ NB240_292.out _; (with_reducible repeat (first | refine blk_drewN ?_ _ | refine blk_drew ?_ | refine blk_alloc ?_ _)); refine blk_far ?_ NB240_292.out _; (with_reducible repeat (first | refine blk_drewN ?_ _ | refine blk_drew ?_ | refine blk_alloc ?_ _)); exact BK240.out) hb); have n7_ := Aside0.mk (blk_below (g := gb253) (o := .cells #[.int .i64 t247, .int .i64 t248, .slice Ao23 t249.length co23] 28 (0, 0)) (by (with_reducible repeat (first | refine blk_drewN ?_ _ | refine blk_drew ?_ | refine blk_alloc ?_ _)); refine blk_far ?_ NB253_292.out _; (with_reducible repeat (first | refine blk_drewN ?_ _ | refine blk_drew ?_ | refine blk_alloc ?_ _)); refine blk_far ?_ NB253_292.out _; (with_reducible repeat (first | refine blk_drewN ?_ _ | refine blk_drew ?_ | refine blk_alloc ?_ _)); refine blk_far ?_ NB253_292.out _; (with_reducible repeat (first | refine blk_drewN ?_ _ | refine blk_drew ?_ | refine blk_alloc ?_ _)); exact BK253.out) hb); have n8_ := Aside0.mk (blk_below (g := gb259) (o := .cells #[.int .i64 t254, .int .i64 t255, .slice Ao30 t256.length co30] 28 (0, 0)) (by (with_reducible repeat (first | refine blk_drewN ?_ _ | refine blk_drew ?_ | refine blk_alloc ?_ _)); refine blk_far ?_ NB259_292.out _; (with_reducible repeat (first | refine blk_drewN ?_ _ | refine blk_drew ?_ | refine blk_alloc ?_ _)); refine blk_far ?_ NB259_292.out _; (with_reducible repeat (first | refine blk_drewN ?_ _ | refine blk_drew ?_ | refine blk_alloc ?_ _)); refine blk_far ?_ NB259_292.out _; (with_reducible repeat (first | refine blk_drewN ?_ _ | refine blk_drew ?_ | refine blk_alloc ?_ _)); exact BK259.out) hb); have n9_ := Aside0.mk (blk_below (g := gb266) (o := .cells #[.int .i64 t260, .int .i64 t261, .slice Ao112 t277.length co112] 28 (0, 0)) (by (with_reducible repeat (first | refine blk_drewN ?_ _ | refine blk_drew ?_ | refine blk_alloc ?_ _)); refine blk_far ?_ NB266_292.out _; (with_reducible repeat (first | refine blk_drewN ?_ _ | refine blk_drew ?_ | refine blk_alloc ?_ _)); refine blk_far ?_ NB266_292.out _; (with_reducible repeat (first | refine blk_drewN ?_ _ | refine blk_drew ?_ | refine blk_alloc ?_ _)); refine blk_far ?_ NB266_292.out _; (with_reducible repeat (first | refine blk_drewN ?_ _ | refine blk_drew ?_ | refine blk_alloc ?_ _)); exact BK266.out) hb); have n10_ := Aside0.mk (blk_below (g := gb292) (o := .cells #[.int .i64 t286, .int .i64 t287, .slice Ao127 t288.length co127] 28 (0, 0)) (by (with_reducible repeat (first | refine blk_drewN ?_ _ | refine blk_drew ?_ | refine blk_alloc ?_ _)); refine blk_put (cs := #[.int .i64 t286, .int .i64 t287, .slice none 0 0]) ?_ 2 _ rfl; (with_reducible repeat (first | refine blk_drewN ?_ _ | refine blk_drew ?_ | refine blk_alloc ?_ _)); refine blk_put (cs := #[.int .i64 t286, .int .i64 0, .slice none 0 0]) ?_ 1 _ rfl; (with_reducible repeat (first | refine blk_drewN ?_ _ | refine blk_drew ?_ | refine blk_alloc ?_ _)); refine blk_put (cs := #[.int .i64 0, .int .i64 0, .slice none 0 0]) ?_ 0 _ rfl; (with_reducible repeat (first | refine blk_drewN ?_ _ | refine blk_drew ?_ | refine blk_alloc ?_ _)); exact BK292.out) hb); have n11_ := Aside0.mk (below_step qB19 hb); clear HO_254002; clear HO_260002; clear HO_267002; clear HO279; clear HO285; clear HO290; clear BK240; clear BK253; clear BK259; clear BK266; clear BK292; clear HB; have HO_254002 := n0_; have HO_260002 := n1_; have HO_267002 := n2_; have HO279 := n3_; have HO285 := n4_; have HO290 := n5_; have BK240 := n6_; have BK253 := n7_; have BK259 := n8_; have BK266 := n9_; have BK292 := n10_; have HB := n11_; clear n0_ n1_ n2_ n3_ n4_ n5_ n6_ n7_ n8_ n9_ n10_ n11_; (try clear hb); (try clear hb2); (try clear hk); (try clear hi)))
                          go_meet
                          case rel => exact ⟨_, ((t291 != t252)), qB71, H', ⟨by have := HJ11.out; have := HJ60.out; first | omega | exact Nat.le_refl _⟩, ⟨by (with_reducible repeat (first | apply Kd.N_alloc | apply Kd.N_drewN | apply Kd.N_drew)); exact Kd.N_mono HO_254002.out (fun _ hk => ⟨hk.1.1.1.1.1, ⟨hk.1.1.1.2, ⟨hk.1.2, ⟨hk.1.1.1.1.2.2.1, ⟨hk.1.1.1.1.2.2.2.1, ⟨hk.1.1.1.1.2.2.2.2.1, ⟨hk.1.1.1.1.2.2.2.2.2, hk.2⟩⟩⟩⟩⟩⟩⟩)⟩, ⟨by (with_reducible repeat (first | apply Kd.N_alloc | apply Kd.N_drewN | apply Kd.N_drew)); exact Kd.N_mono HO_260002.out (fun _ hk => ⟨hk.1.1.1.1.1, ⟨hk.1.1.1.2, ⟨hk.1.2, ⟨hk.1.1.1.1.2.2.1, ⟨hk.1.1.1.1.2.2.2.1, ⟨hk.1.1.1.1.2.2.2.2.1, ⟨hk.1.1.1.1.2.2.2.2.2, hk.2⟩⟩⟩⟩⟩⟩⟩)⟩, ⟨by (with_reducible repeat (first | apply Kd.N_alloc | apply Kd.N_drewN | apply Kd.N_drew)); exact Kd.N_mono HO279.out (fun _ hk => ⟨hk.1.1.1.1, ⟨hk.1.1.1.2.1, ⟨hk.1.2, ⟨hk.1.1.1.2.2.2.1, ⟨hk.1.1.1.2.2.2.2.1, ⟨hk.1.1.1.2.2.2.2.2.1, ⟨hk.1.1.1.2.2.2.2.2.2, hk.2⟩⟩⟩⟩⟩⟩⟩)⟩, ⟨by (with_reducible repeat (first | apply Kd.N_alloc | apply Kd.N_drewN | apply Kd.N_drew)); exact Kd.N_mono HO290.out (fun _ hk => ⟨hk.1.1, ⟨hk.1.2.1, ⟨hk.1.2.2.2.1, ⟨hk.1.2.2.2.2.2.1, ⟨hk.1.2.2.2.2.2.2.1, ⟨hk.1.2.2.2.2.2.2.2.1, ⟨hk.1.2.2.2.2.2.2.2.2, hk.2⟩⟩⟩⟩⟩⟩⟩)⟩, ⟨by (with_reducible repeat (first | refine blk_drewN ?_ _ | refine blk_drew ?_ | refine blk_alloc ?_ _)); exact BK240.out⟩, ⟨by (with_reducible repeat (first | refine blk_drewN ?_ _ | refine blk_drew ?_ | refine blk_alloc ?_ _)); exact BK253.out⟩, ⟨by (with_reducible repeat (first | refine blk_drewN ?_ _ | refine blk_drew ?_ | refine blk_alloc ?_ _)); exact BK259.out⟩, ⟨by (with_reducible repeat (first | refine blk_drewN ?_ _ | refine blk_drew ?_ | refine blk_alloc ?_ _)); exact BK266.out⟩, ⟨by (with_reducible repeat (first | refine blk_drewN ?_ _ | refine blk_drew ?_ | refine blk_alloc ?_ _)); exact BK292.out⟩, ⟨by repeat (first | (with_reducible first | exact HB.out | apply below_alloc | apply pw_below_drewN | apply below_drew1 | refine below_set ?_ GE240.out | refine below_set ?_ GE253.out | refine below_set ?_ GE259.out | refine below_set ?_ GE266.out | refine below_set ?_ GE292.out) | exact HB.out)⟩⟩
                        · replace c129 := Bool.eq_false_iff.mpr c129
                          subst c129
                          have H1 : (laws_FnExactMoveRoot.j2 kj60 t276 true t260 t261 t277) = some true := by rw [if_neg (show ¬ (false = true) by decide)] at H; exact H
                          exact (laws_FnExactMoveRoot.j2_no _ _ _ _ _ H1).elim
                      case rest =>
                        clear HC106
                        try clear c1
                        try clear c2
                        try clear p2
                        try clear c3
                        try clear c4
                        try clear c4b0
                        try clear c5
                        try clear c6
                        try clear c7
                        try clear c8
                        try clear c9
                        try clear c10
                        try clear c11
                        try clear c12
                        try clear c13
                        try clear c14
                        try clear c15
                        try clear c19
                        try clear c21
                        try clear c23
                        try clear c24
                        try clear c25
                        try clear c26
                        try clear c27
                        try clear c28
                        try clear c33
                        try clear c34
                        try clear c35
                        try clear c39
                        try clear c40
                        try clear c41
                        try clear c42
                        try clear c44
                        try clear c45
                        try clear c48
                        try clear c49
                        try clear c50
                        try clear c52
                        try clear c53
                        try clear c56
                        try clear c59
                        try clear c66
                        try clear c67
                        try clear c68
                        try clear c71
                        try clear c71b0
                        try clear c73
                        try clear c74
                        try clear c75
                        try clear c76
                        try clear c78
                        try clear c79
                        try clear c82
                        try clear c83
                        try clear c84
                        try clear c86
                        try clear c87
                        try clear c90
                        try clear c94
                        try clear c94b0
                        try clear c95
                        try clear c96
                        try clear c97
                        try clear c103
                        try clear c103b0
                        try clear c103b1
                        try clear c107
                        try clear c108
                        try clear c109
                        try clear c115
                        try clear c116
                        try clear c122
                        try clear c123
                        try clear c124
                        try clear c125
                        try clear c129
                        try clear c130
                        try clear c131
                        try clear c132
                        try clear c133
                        try clear c135
                        try clear c136
                        try clear c137
                        try clear c140
                        try clear c141
                        try clear c142
                        try clear c143
                        try clear c144
                        try clear c145
                        try clear c146
                        try clear c147
                        try clear hcz101_0
                        try clear hcz101_1
                        try clear hcz101_2
                        try clear hcz110_0
                        try clear hcz110_1
                        try clear hcz110_2
                        try clear hcz113_0
                        try clear hcz113_1
                        try clear hcz113_2
                        try clear hcz117_0
                        try clear hcz117_1
                        try clear hcz117_2
                        try clear hcz126_0
                        try clear hcz126_1
                        try clear hcz126_2
                        try clear hcz134_0
                        try clear hcz134_1
                        try clear hcz134_2
                        try clear hcz138_0
                        try clear hcz138_1
                        try clear hcz138_2
                        try clear hcz144_0
                        try clear hcz144_1
                        try clear hcz144_2
                        try clear hcz148_0
                        try clear hcz148_1
                        try clear hcz148_2
                        try clear hcz14_0
                        try clear hcz14_1
                        try clear hcz14_2
                        try clear hcz16_0
                        try clear hcz16_1
                        try clear hcz16_2
                        try clear hcz22_0
                        try clear hcz22_1
                        try clear hcz22_2
                        try clear hcz24_0
                        try clear hcz24_1
                        try clear hcz24_2
                        try clear hcz29_0
                        try clear hcz29_1
                        try clear hcz29_2
                        try clear hcz36_0
                        try clear hcz36_1
                        try clear hcz36_2
                        try clear hcz43_0
                        try clear hcz43_1
                        try clear hcz43_2
                        try clear hcz46_0
                        try clear hcz46_1
                        try clear hcz46_2
                        try clear hcz51_0
                        try clear hcz51_1
                        try clear hcz51_2
                        try clear hcz54_0
                        try clear hcz54_1
                        try clear hcz54_2
                        try clear hcz69_0
                        try clear hcz69_1
                        try clear hcz69_2
                        try clear hcz6_0
                        try clear hcz6_1
                        try clear hcz6_2
                        try clear hcz77_0
                        try clear hcz77_1
                        try clear hcz77_2
                        try clear hcz80_0
                        try clear hcz80_1
                        try clear hcz80_2
                        try clear hcz85_0
                        try clear hcz85_1
                        try clear hcz85_2
                        try clear hcz88_0
                        try clear hcz88_1
                        try clear hcz88_2
                        try clear hcz98_0
                        try clear hcz98_1
                        try clear hcz98_2
                        try clear hfz101_0
                        try clear hfz101_1
                        try clear hfz101_2
                        try clear hfz110_0
                        try clear hfz110_1
                        try clear hfz110_2
                        try clear hfz113_0
                        try clear hfz113_1
                        try clear hfz113_2
                        try clear hfz117_0
                        try clear hfz117_1
                        try clear hfz117_2
                        try clear hfz126_0
                        try clear hfz126_1
                        try clear hfz126_2
                        try clear hfz134_0
                        try clear hfz134_1
                        try clear hfz134_2
                        try clear hfz138_0
                        try clear hfz138_1
                        try clear hfz138_2
                        try clear hfz144_0
                        try clear hfz144_1
                        try clear hfz144_2
                        try clear hfz148_0
                        try clear hfz148_1
                        try clear hfz148_2
                        try clear hfz14_0
                        try clear hfz14_1
                        try clear hfz14_2
                        try clear hfz16_0
                        try clear hfz16_1
                        try clear hfz16_2
                        try clear hfz22_0
                        try clear hfz22_1
                        try clear hfz22_2
                        try clear hfz24_0
                        try clear hfz24_1
                        try clear hfz24_2
                        try clear hfz29_0
                        try clear hfz29_1
                        try clear hfz29_2
                        try clear hfz36_0
                        try clear hfz36_1
                        try clear hfz36_2
                        try clear hfz43_0
                        try clear hfz43_1
                        try clear hfz43_2
                        try clear hfz46_0
                        try clear hfz46_1
                        try clear hfz46_2
                        try clear hfz51_0
                        try clear hfz51_1
                        try clear hfz51_2
                        try clear hfz54_0
                        try clear hfz54_1
                        try clear hfz54_2
                        try clear hfz69_0
                        try clear hfz69_1
                        try clear hfz69_2
                        try clear hfz6_0
                        try clear hfz6_1
                        try clear hfz6_2
                        try clear hfz77_0
                        try clear hfz77_1
                        try clear hfz77_2
                        try clear hfz80_0
                        try clear hfz80_1
                        try clear hfz80_2
                        try clear hfz85_0
                        try clear hfz85_1
                        try clear hfz85_2
                        try clear hfz88_0
                        try clear hfz88_1
                        try clear hfz88_2
                        try clear hfz98_0
                        try clear hfz98_1
                        try clear hfz98_2
                        try clear p2
                        obtain ⟨kq, x92_105, rfl, HA, HJ105, HO_254002, HO_260002, HO_267002, HO_293002, BK240, BK253, BK259, BK266, BK292, HB⟩ := hcut
                        cases kq with
                        | zero => exact absurd HA.out (by simp [laws_FnExactMoveRoot.j2])
                        | succ kj105 =>
                          have H := HA.out
                          clear HA
                          simp only [laws_FnExactMoveRoot.j2] at H
                          by_cases c150 : x92_105 = true
                          · subst c150
                            have H1 : (some false) = some true := by rw [if_pos rfl] at H; exact H
                            cases H1
                          · replace c150 := Bool.eq_false_iff.mpr c150
                            subst c150
                            have H1 : ((laws_heldGauss.f kj105 t260 t261 t277 1).bind fun t294 => (if t294 < 0 then (some false) else (if t294 = t276 then (some true) else (some false)))) = some true := by rw [if_neg (show ¬ (false = true) by decide)] at H; exact H
                            clear H
                            have H := H1
                            clear H1
                            replace H := Option.bind_eq_some_iff.mp H
                            obtain ⟨t294, A1510, H⟩ := H
                            replace H : (if t294 < 0 then (some false) else (if t294 = t276 then (some true) else (some false))) = some true := H
                            have A151 := Aside0.mk A1510
                            clear A1510
                            by_cases c152 : t294 < 0
                            · rw [if_pos c152] at H
                              cases H
                            · rw [if_neg c152] at H
                              have c152b0 : decide (t294 < 0) = false := decide_eq_false c152
                              clear c152
                              by_cases c159 : t294 = t276
                              · rw [if_pos c159] at H
                                have c159b0 : (t294 == t276) = true := beq_iff_eq.mpr c159
                                have c159b1 : (t294 != t276) = false := bne_eq_false_iff_eq.mpr c159
                                clear c159
                                clear H
                                have hnb160 := NB266_240.out
                                have hnc160 := NB240_266.out
                                have hnb161 := NB266_253.out
                                have hnc161 := NB253_266.out
                                have hnb162 := NB266_259.out
                                have hnc162 := NB259_266.out
                                have hnb163 := NB266_292.out
                                have hnc163 := NB292_266.out
                                have hcz164_0 : wc.cell? ⟨gb266, 0, none⟩ = some (.int .i64 t260) := (blk_cell BK266.out 0).trans rfl
                                have hcz164_1 : wc.cell? ⟨gb266, 1, none⟩ = some (.int .i64 t261) := (blk_cell BK266.out 1).trans rfl
                                have hcz164_2 : wc.cell? ⟨gb266, 2, none⟩ = some (.slice Ao112 t277.length co112) := (blk_cell BK266.out 2).trans rfl
                                have hfz164_0 := blk_frozen BK266.out 0
                                have hfz164_1 := blk_frozen BK266.out 1
                                have hfz164_2 := blk_frozen BK266.out 2
                                go_wp2_with (first | ((with_reducible refine gate_callee (f := 19) rfl ?_); refine goesL_ (some 95) rfl rfl Try.func19 (by kernel_rfl) rfl #[.agg #[.int .i64 t260, .int .i64 t261, .slice Ao112 t277.length co112], .int .i64 1] rfl qB37 ?_; (with_reducible refine (laws_heldGauss.calls kj105 t260 t261 _ _ t277 1 t294 _ ?side1 ?side2 A151.out).mono ?_); (case side1 => repeat (first | exact (Kd.N_reads' HO_267002.out).2.2 | (with_reducible refine Kd.C_alloc ?_ _) | (with_reducible refine Kd.C_drewN ?_ _) | (with_reducible refine Kd.C_drew ?_))); (case side2 => exact (Kd.N_reads' HO_267002.out).2.1); rintro e w165 ⟨rfl, hb⟩; refine ⟨_, rfl, ?_⟩; have n0_ := Aside0.mk (Kd.N_below qB55 hb); have n1_ := Aside0.mk (Kd.N_below qB56 hb); have n2_ := Aside0.mk (Kd.N_below qB57 hb); have n3_ := Aside0.mk (Kd.N_below (by (with_reducible repeat (first | apply Kd.N_alloc | apply Kd.N_drewN | apply Kd.N_drew)); exact HO_293002.out) hb); have n4_ := Aside0.mk (blk_below (g := gb240) (o := .cells #[.int .i64 a0_0, .int .i64 a0_1, .slice A0_2 l0_2.length c0_2] 44 (0, 0)) qB51 hb); have n5_ := Aside0.mk (blk_below (g := gb253) (o := .cells #[.int .i64 t247, .int .i64 t248, .slice Ao23 t249.length co23] 28 (0, 0)) qB52 hb); have n6_ := Aside0.mk (blk_below (g := gb259) (o := .cells #[.int .i64 t254, .int .i64 t255, .slice Ao30 t256.length co30] 28 (0, 0)) qB53 hb); have n7_ := Aside0.mk (blk_below (g := gb266) (o := .cells #[.int .i64 t260, .int .i64 t261, .slice Ao112 t277.length co112] 28 (0, 0)) qB54 hb); have n8_ := Aside0.mk (blk_below (g := gb292) (o := .cells #[.int .i64 t286, .int .i64 t287, .slice Ao127 t288.length co127] 28 (0, 0)) (by (with_reducible repeat (first | refine blk_drewN ?_ _ | refine blk_drew ?_ | refine blk_alloc ?_ _)); exact BK292.out) hb); have n9_ := Aside0.mk (below_step qB19 hb); clear HO_254002; clear HO_260002; clear HO_267002; clear HO_293002; clear BK240; clear BK253; clear BK259; clear BK266; clear BK292; clear HB; have HO_254002 := n0_; have HO_260002 := n1_; have HO_267002 := n2_; have HO_293002 := n3_; have BK240 := n4_; have BK253 := n5_; have BK259 := n6_; have BK266 := n7_; have BK292 := n8_; have HB := n9_; clear n0_ n1_ n2_ n3_ n4_ n5_ n6_ n7_ n8_ n9_; (try clear hb); (try clear hb2); (try clear hk); (try clear hi)))
                                go_ret
                                exact ⟨by first | rfl | (simp [errW_none, errW_some] <;> rfl) | (simp [*, errW_none, errW_some] <;> rfl), by repeat (first | (with_reducible first | exact HB.out | apply below_alloc | apply pw_below_drewN | apply below_drew1 | refine below_set ?_ GE240.out | refine below_set ?_ GE253.out | refine below_set ?_ GE259.out | refine below_set ?_ GE266.out | refine below_set ?_ GE292.out) | exact HB.out)⟩
                              · rw [if_neg c159] at H
                                cases H
                    · rw [if_neg c103] at H
                      cases H
          · replace c59 := Bool.eq_false_iff.mpr c59
            subst c59
            have H1 : (some false) = some true := by rw [if_neg (show ¬ (false = true) by decide)] at H; exact H
            cases H1

/-- THE ONE PURE STATEMENT of laws_FnExactMoveRoot. -/
def laws_FnExactMoveRoot.Pure : Prop := ∀ (a0_0 : Int) (a0_1 : Int) (l0_2 : List (List Int)) (a1 : Int), (Lit.int .i64 a0_0).wf = true → (Lit.int .i64 a0_1).wf = true → l0_2.length ≤ maxLen → (∀ r ∈ l0_2, r.length ≤ maxLen ∧ ∀ x ∈ r, (Lit.int .i64 x).wf = true) → (Lit.int .i64 a1).wf = true → ∃ k, laws_FnExactMoveRoot.f k a0_0 a0_1 l0_2 a1 = some true
theorem laws_FnExactMoveRoot.walk (P : laws_FnExactMoveRoot.Pure) (a0_0 : Int) (a0_1 : Int) (A0_2 : Option Addr) (c0_2 : Nat) (l0_2 : List (List Int)) (a1 : Int) (w : World) (w0_0 : (Lit.int .i64 a0_0).wf = true) (w0_1 : (Lit.int .i64 a0_1).wf = true) (w0_2 : (Kd.slice 2 (Kd.int .i64)).C w A0_2 l0_2.length l0_2 ∧ l0_2.length ≤ c0_2 ∧ l0_2.length ≤ maxLen ∧ ∀ r ∈ l0_2, r.length ≤ maxLen ∧ ∀ x ∈ r, (Lit.int .i64 x).wf = true) (w1 : (Lit.int .i64 a1).wf = true) :
    Calls Try.prog 5 #[.agg #[.int .i64 a0_0, .int .i64 a0_1, .slice A0_2 l0_2.length c0_2], .int .i64 a1] w fun e w' => e = .returned (.bool true) ∧ Below w.heap.size w w' := by
  obtain ⟨k, h⟩ := P a0_0 a0_1 l0_2 a1 w0_0 w0_1 w0_2.2.2.1 w0_2.2.2.2 w1
  refine (laws_FnExactMoveRoot.calls k a0_0 a0_1 _ _ l0_2 a1 w w0_2.1 w0_2.2.1 h).mono ?_
  rintro e w' ⟨rfl, hd⟩
  exact ⟨rfl, hd⟩

end Go.Proofs.Ytkjeadgfoedhbaa.PFnExactMoveRoot
