/- The functions that the law reaches, as plain functions, each with the proof that the program comes to it; no condition. Written by a program of this session (wip/mp.py) over the printing of the kit; what is marked HAND is told by hand. -/
import Derived.Test.YtkjeadgfoedhbaaPFnExactConstantOfx0
import Derived.Test.YtkjeadgfoedhbaaPFnExactConstantOfx1
import Derived.Test.YtkjeadgfoedhbaaPFnExactConstantOfx2
import Derived.Test.YtkjeadgfoedhbaaPFnExactConstantOfx5
import Derived.Test.YtkjeadgfoedhbaaPFnExactConstantOfx7
namespace Go.Proofs.Ytkjeadgfoedhbaa.PFnExactConstantOf
open Go.RowKit Go.Proofs.YtkjeadgfoedhbaaW.PrintWords Go.Proofs.YtkjeadgfoedhbaaW.PrintLast Go.Proofs.YtkjeadgfoedhbaaW.PrintMore
attribute [local go_sem] max2_int min2_int max_two min_two max_three min_three max_four min_four   -- for this text's walks alone
set_option linter.unusedVariables false
set_option linter.unusedSimpArgs false

/-! ### laws_FnExactConstantOf: function 9 -/
-- HAND
set_option maxHeartbeats 4000000 in
theorem nMarkS2_calls (w0 w : World) (ok : Nat → Prop) (u : Value) (l : List (List Int)) (a : Int) (hB : Below w0.heap.size w0 w) (ho : Kd.S (Kd.slice 2 (Kd.int .i64)) 22 w w0.heap.size ok u l) (hl : l.length ≤ 2000000) (hr : ∀ x ∈ l, x.length ≤ 2000000) :
    Calls Try.prog 52 #[u, .int .i64 a] w fun e w' => e = .returned (.int .i64 (nMarkS l a).1) ∧ Kd.S (Kd.slice 2 (Kd.int .i64)) 22 w' w0.heap.size ok u (nMarkS l a).2 ∧ Below w0.heap.size w0 w' ∧ Kept w w' ok := by
  have HO := Aside0.mk ho
  have HB := Aside0.mk hB
  have HL := Aside0.mk hl
  have HR := Aside0.mk hr
  obtain ⟨A, c, rfl⟩ := Kd.S_slice ho
  clear ho hB hl hr
  go_enter Try.func52, Try.ntmps52
  go_wp2
  go_loopg [1, 5] (l.length + 1) (fun kq v1 v5 w' => ∃ (done rest : List (List Int)) (b : Int), v1 = .int .i64 b ∧ v5 = .int .i64 (done.length : Int) ∧ Aside0 (kq = rest.length + 1) ∧ Aside0 (done.length + rest.length = l.length) ∧ Aside0 (∀ x ∈ rest, x.length ≤ 2000000) ∧ Aside0 (nMarkS l a = ((nMarkS rest b).1, done ++ (nMarkS rest b).2)) ∧ Aside0 (Kd.S (Kd.slice 2 (Kd.int .i64)) 22 w' w0.heap.size ok (.slice A l.length c) (done ++ rest)) ∧ Aside0 (Below w0.heap.size w0 w') ∧ Aside0 (Kept w w' ok))
  case atStart => exact ⟨[], l, a, rfl, rfl, ⟨rfl⟩, ⟨by simp⟩, ⟨HR.out⟩, ⟨by simp⟩, ⟨by simpa using HO.out⟩, ⟨HB.out⟩, ⟨Kept.refl _ _⟩⟩
  case round =>
    obtain ⟨done, rest, b, rfl, rfl, HK, HN, HR2, HE, HS, HB2, HP⟩ := hrel
    cases rest with
    | nil =>
      have hd : done.length = l.length := by have := HN.out; simpa using this
      have c0 : decide ((done.length : Int) < (l.length : Int)) = false := by rw [hd]; simp
      go_wp2
      go_ret
      have e := HE.out
      simp only [nMarkS, List.append_nil] at e
      rw [e]
      exact ⟨rfl, by simpa using HS.out, HB2.out, HP.out⟩
    | cons x rest =>
      have hn : done.length + (rest.length + 1) = l.length := by have := HN.out; simpa using this
      have c0 : decide ((done.length : Int) < (l.length : Int)) = true := by simp; omega
      have hlen : (done ++ x :: rest).length = l.length := by simp; omega
      obtain ⟨g, cap, e1, hg0, hg1, _⟩ := Kd.S_form HS.out (by simp; omega)
      rw [hlen] at e1
      injection e1 with eA _ ec
      subst eA ec
      have hS := HS.out
      obtain ⟨oki, cs, hcl, hM, hcc, hoki, hH⟩ := Kd.S_lend hS [] (done.length : Int) (by omega) (by omega)
      obtain ⟨v, rfl, hv⟩ := hM
      have hx : (done ++ x :: rest).getD (done.length : Int).toNat [] = x := by simp
      rw [hx] at hv
      have hcell := hcc 0 v rfl
      have hc2 : wr.cell? ⟨g, done.length, none⟩ = some v := by simpa [Kd.slice] using hcell
      have hc3 : wr.cell? ((⟨g, 0, none⟩ : Addr).add done.length) = some v := by rw [add_plain]; simpa using hc2
      obtain ⟨k1, hk1⟩ := nMark_f x b (by have := HR2.out x (by simp); omega)
      obtain ⟨A1, c1, rfl⟩ := Kd.R_slice hv
      have HV := Aside0.mk hv
      have HH := Aside0.mk hH
      have HO2 := Aside0.mk hoki
      have HK1 := Aside0.mk hk1
      have p5 : (0 : Int) ≤ (done.length : Int) := by omega
      have q5 : (done.length : Int) < (l.length : Int) := by omega
      clear hcell hcc hv hH hoki hk1 hS
      go_wp2_with (go_at_call 51; refine (laws_markInt64S.calls k1 oki (.slice A1 x.length c1) x b (nMark x b).1 (nMark x b).2 w0 _ HB2.out HV.out HK1.out).mono ?_; rintro e w' ⟨rfl, h1_, h2_, h3_⟩; have HV2 := Aside0.mk h1_; have HB3 := Aside0.mk h2_; have HP3 := Aside0.mk h3_; clear h1_ h2_ h3_)
      go_roundg (gk - 1)
      case measure => have := HK.out; simp only [List.length_cons] at this; omega
      case rel =>
        have hH2 := Kd.H_step HH.out (fun k hk hn hlt => HP3.out.2 k hlt hn)
        have hS2 := Kd.H_back hH2 (x' := (nMark x b).2) (okp := oki) ⟨_, rfl, Kd.R_mono (Kd.R_tight rfl HV2.out) (fun k hk => HV.out.1 k hk.symm)⟩ (fun k hk => hk)
        have e2 : (done ++ x :: rest).set (done.length : Int).toNat (nMark x b).2 = (done ++ [(nMark x b).2]) ++ rest := by simp
        rw [e2] at hS2
        refine ⟨done ++ [(nMark x b).2], rest, (nMark x b).1, rfl, by rw [wrap64]; simp; have := HL.out; omega, ⟨by have := HK.out; simp only [List.length_cons] at this; omega⟩, ⟨by simp; omega⟩, ⟨fun y hy => HR2.out y (List.mem_cons_of_mem _ hy)⟩, ⟨by rw [HE.out]; simp [nMarkS]⟩, ⟨hS2⟩, ⟨HB3.out⟩, ⟨?_⟩⟩
        exact HP.out.then_ HP3.out (fun k hk => .inl (HO2.out k hk).1)

set_option maxHeartbeats 4000000 in
theorem nMarkG_calls (w0 w : World) (ok : Nat → Prop) (p n : Int) (u : Value) (l : List (List Int)) (a : Int) (hB : Below w0.heap.size w0 w) (ho : Kd.S (Kd.slice 2 (Kd.int .i64)) 22 w w0.heap.size ok u l) (hl : l.length ≤ 2000000) (hr : ∀ x ∈ l, x.length ≤ 2000000) :
    Calls Try.prog 18 #[.agg #[.int .i64 p, .int .i64 n, u], .int .i64 a] w fun e w' => e = .returned (.int .i64 (nMarkS l a).1) ∧ Kd.S (Kd.slice 2 (Kd.int .i64)) 22 w' w0.heap.size ok u (nMarkS l a).2 ∧ Below w0.heap.size w0 w' ∧ Kept w w' ok := by
  have HO := Aside0.mk ho
  have HB := Aside0.mk hB
  have HL := Aside0.mk hl
  have HR := Aside0.mk hr
  have HK := Aside0.mk (Kept.refl w ok)
  have hu := Try.underlying28
  obtain ⟨A, c, rfl⟩ := Kd.S_slice ho
  clear ho hB hl hr
  go_enter Try.func18, Try.ntmps18
  go_wp2_with (first | ((with_reducible refine gate_dst (N := 2) rfl ?_); refine box_event ?hg (N := 2) ?hd (cs := #[.int .i64 p, .int .i64 n, .slice A l.length c]) (t := 28) ?hr ?_; (case hd => rfl); (case hg => rfl); (case hr => first | (go_simp; done) | (go_simp; rfl)); intro gb hg w5 hbox hb; have n0_ := Aside0.mk (Kd.S_below qB63 hb); have n1_ := Aside0.mk (Kept.below (S := ok) qB33 hb); have n2_ := Aside0.mk (below_step qB32 hb); have BK := Aside0.mk hbox; clear HO HK HB; have HO := n0_; have HK := n1_; have HB := n2_; clear n0_ n1_ n2_; clear hb hbox hg; have hcz6_0 : w5.cell? ⟨gb, 0, none⟩ = some (.int .i64 p) := (blk_cell BK.out 0).trans rfl; have hcz6_1 : w5.cell? ⟨gb, 1, none⟩ = some (.int .i64 n) := (blk_cell BK.out 1).trans rfl; have hcz6_2 : w5.cell? ⟨gb, 2, none⟩ = some (.slice A l.length c) := (blk_cell BK.out 2).trans rfl; have hfz6_0 := blk_frozen BK.out 0; have hfz6_1 := blk_frozen BK.out 1; have hfz6_2 := blk_frozen BK.out 2) | ((with_reducible refine gate_callee (f := 52) rfl ?_); refine goesL_ (some 8) rfl rfl Try.func52 (by kernel_rfl) rfl #[.slice A l.length c, .int .i64 a] rfl qB31 ?_; refine (nMarkS2_calls w0 _ ok _ l a qB32 qB63 HL.out HR.out).mono ?_; rintro e w6 ⟨rfl, h1_, h2_, h3_⟩; refine ⟨_, rfl, ?_⟩; have HK2 := Aside0.mk (Kept.then_ qB33 h3_ (fun k hk => .inl hk)); have HO2 := Aside0.mk h1_; have HB2 := Aside0.mk h2_; clear h1_ h2_ h3_ HO HB HK; have HO := HO2; have HB := HB2; have HK := HK2; clear HO2 HB2 HK2))
  go_ret
  exact ⟨by first | rfl | (go_simp; rfl), by (with_reducible repeat (first | apply Kd.S_alloc | apply Kd.S_drewN | apply Kd.S_drew)); exact HO.out, by repeat (first | (with_reducible first | exact HB.out | apply below_alloc | apply pw_below_drewN | apply below_drew1) | exact HB.out), by repeat (first | (with_reducible first | exact HK.out | apply Kept.alloc | apply Kept.drewN | apply Kept.drew) | exact HK.out)⟩
def nMarkSet (ok : Nat → Prop) (base : Nat) (w : World) (k : Nat) : Prop := ok k ∧ base ≤ k ∧ k < w.heap.size ∧ ∃ q, q ∈ [22, 2] ∧ ∃ cells, w.heap[k]? = some (.cells cells q (0, 0))
theorem nMarkG_both {w0 w : World} {ok : Nat → Prop} {p n : Int} {u : Value} {l : List (List Int)} {a m : Int} (hb : laws_markG_B.f p n l a = some m) (hB : Below w0.heap.size w0 w) (hu : Kd.S (Kd.slice 2 (Kd.int .i64)) 22 w w0.heap.size ok u l) :
    Calls Try.prog 18 #[.agg #[.int .i64 p, .int .i64 n, u], .int .i64 a] w fun e w' => e = .returned (.int .i64 m) ∧ Kd.S (Kd.slice 2 (Kd.int .i64)) 22 w' w0.heap.size ok u (nMarkS l a).2 ∧ Below w0.heap.size w0 w' ∧ Kept w w' (nMarkSet ok w0.heap.size w) := by
  unfold laws_markG_B.f at hb
  by_cases c : l.length ≤ 2000000 ∧ l.all (fun x => decide (x.length ≤ 2000000)) = true
  · rw [if_pos c] at hb
    obtain rfl := Option.some.inj hb
    refine (nMarkG_calls w0 w (nMarkSet ok w0.heap.size w) p n u l a hB (Kd.S_mono (Kd.S_bound hu) (fun k hk => hk)) c.1 (fun x hx => by simpa using List.all_eq_true.mp c.2 x hx)).mono ?_
    rintro e w' ⟨rfl, h1, h2, h3⟩
    exact ⟨rfl, Kd.S_mono h1 (fun k hk => hk.1), h2, h3⟩
  · rw [if_neg c] at hb
    cases hb
theorem nMarkG_R {w w' : World} {base : Nat} {S okR : Nat → Prop} {v : Value} {xs : List Int} (hk : Kept w w' S) (h : (Kd.int .i64).R 2 w base okR v xs) (hne : ∀ k, S k → some k ≠ v.ownBlock) : (Kd.int .i64).R 2 w' base okR v xs :=
  Kd.R_mono (Kd.R_step (Kd.R_tight rfl h) (fun k hk1 hlt => hk.2 k hlt (fun ho => hne k ho hk1))) (fun k hk1 => h.1 k hk1.symm)
theorem nMarkG_B {w w' : World} {base g t : Nat} {ok : Nat → Prop} {cs : Array Value} (hk : Kept w w' (nMarkSet ok base w)) (hb : w.heap[g]? = some (.cells cs t (0, 0))) (ht : t ≠ 22 ∧ t ≠ 2) : w'.heap[g]? = some (.cells cs t (0, 0)) := by
  refine (hk.2 g (blk_lt hb) ?_).trans hb
  rintro ⟨_, _, _, q, hq, cells, hc⟩
  rw [hb] at hc
  simp only [Option.some.injEq, Obj.cells.injEq] at hc
  simp only [List.mem_cons, List.not_mem_nil, or_false] at hq
  rcases hq with h | h
  · exact ht.1 (hc.2.1.trans h)
  · exact ht.2 (hc.2.1.trans h)
mutual
def laws_FnExactConstantOf.j0 : Nat → Int → Int → Bool → Int → Int → List (List Int) → Int → List Int → Int → Int → List (List Int) → Int → List Int → Option (Bool)
  | 0, _, _, _, _, _, _, _, _, _, _, _, _, _ => none
  | k + 1, x5, x8, x40, x227000, x227001, x227002, x239000, x239001, x245000, x245001, x245002, x251000, x251001 => if x40 = true then (some false) else ((laws_toGauss.f k x227000 x227001 x227002).bind fun bt252 => ((laws_eqGauss.f k x245000 x245001 x245002 bt252.1 bt252.2.1 bt252.2.2).bind fun t257 => (if t257 = true then ((laws_markG_B.f x245000 x245001 x245002 1).bind fun t258 => (if t258 < 0 then (laws_FnExactConstantOf.j1 k x5 true x227000 x227001 x227002 x239000 x239001 x251000 x251001) else ((laws_eqCyclo.f k x251000 x251001 x239000 x239001).bind fun t259 => (if t259 = true then (laws_FnExactConstantOf.j1 k x5 (x8 != x5) x227000 x227001 x227002 x239000 x239001 x251000 x251001) else (laws_FnExactConstantOf.j1 k x5 true x227000 x227001 x227002 x239000 x239001 x251000 x251001))))) else (some false))))
def laws_FnExactConstantOf.j1 : Nat → Int → Bool → Int → Int → List (List Int) → Int → List Int → Int → List Int → Option (Bool)
  | 0, _, _, _, _, _, _, _, _, _ => none
  | k + 1, x5, x61, x227000, x227001, x227002, x239000, x239001, x251000, x251001 => if x61 = true then (some false) else ((laws_markCyclo.f k x251000 x251001 1).bind fun bt260 => ((laws_heldCyclo.f k x251000 bt260.2 1).bind fun t262 => (if t262 < 0 then (some false) else (if t262 = bt260.1 then ((laws_toGauss.f k x227000 x227001 x227002).bind fun bt263 => ((impl_ConstantOf.f k bt263.1 bt263.2.1 bt263.2.2).bind fun bt268 => ((laws_eqCyclo.f k bt268.1 bt268.2.1 x239000 x239001).bind fun t274 => (if t274 = true then (laws_FnExactConstantOf.j2 k bt260.1 (bt268.2.2 != x5) x251000 bt260.2) else (laws_FnExactConstantOf.j2 k bt260.1 true x251000 bt260.2))))) else (some false)))))
def laws_FnExactConstantOf.j2 : Nat → Int → Bool → Int → List Int → Option (Bool)
  | 0, _, _, _, _ => none
  | k + 1, x10, x87, x251000, x251001 => if x87 = true then (some false) else ((laws_heldCyclo.f k x251000 x251001 1).bind fun t275 => (if t275 < 0 then (some false) else (if t275 = x10 then (some true) else (some false))))
end
def laws_FnExactConstantOf.f (k : Nat) (a0_0 : Int) (a0_1 : Int) (l0_2 : List (List Int)) : Option (Bool) := (laws_szGauss.f k a0_0 a0_1 l0_2 1048576).bind fun t227 => (if t227 < 0 then (some true) else ((laws_toGauss.f k a0_0 a0_1 l0_2).bind fun bt228 => ((spec_ConstantOf.f k bt228.1 bt228.2.1 bt228.2.2).bind fun bt233 => ((laws_toGauss.f k a0_0 a0_1 l0_2).bind fun bt239 => ((impl_ConstantOf.f k bt239.1 bt239.2.1 bt239.2.2).bind fun bt245 => ((laws_eqCyclo.f k bt245.1 bt245.2.1 bt233.1 bt233.2.1).bind fun t251 => (if t251 = true then (laws_FnExactConstantOf.j0 k bt233.2.2 bt245.2.2 (bt245.2.2 != bt233.2.2) a0_0 a0_1 l0_2 bt233.1 bt233.2.1 bt239.1 bt239.2.1 bt239.2.2 bt245.1 bt245.2.1) else (laws_FnExactConstantOf.j0 k bt233.2.2 bt245.2.2 true a0_0 a0_1 l0_2 bt233.1 bt233.2.1 bt239.1 bt239.2.1 bt239.2.2 bt245.1 bt245.2.1))))))))
theorem laws_FnExactConstantOf.mono_l : ∀ k, (∀ y0 y1 y2 y3 y4 y5 y6 y7 y8 y9 y10 y11 y12, LeO (laws_FnExactConstantOf.j0 k y0 y1 y2 y3 y4 y5 y6 y7 y8 y9 y10 y11 y12) (laws_FnExactConstantOf.j0 (k + 1) y0 y1 y2 y3 y4 y5 y6 y7 y8 y9 y10 y11 y12)) ∧ (∀ y0 y1 y2 y3 y4 y5 y6 y7 y8, LeO (laws_FnExactConstantOf.j1 k y0 y1 y2 y3 y4 y5 y6 y7 y8) (laws_FnExactConstantOf.j1 (k + 1) y0 y1 y2 y3 y4 y5 y6 y7 y8)) ∧ (∀ y0 y1 y2 y3, LeO (laws_FnExactConstantOf.j2 k y0 y1 y2 y3) (laws_FnExactConstantOf.j2 (k + 1) y0 y1 y2 y3))
  | 0 => ⟨fun _ _ _ _ _ _ _ _ _ _ _ _ _ r h => by simp [laws_FnExactConstantOf.j0] at h, fun _ _ _ _ _ _ _ _ _ r h => by simp [laws_FnExactConstantOf.j1] at h, fun _ _ _ _ r h => by simp [laws_FnExactConstantOf.j2] at h⟩
  | k + 1 => by
    obtain ⟨ih0, ih1, ih2⟩ := laws_FnExactConstantOf.mono_l k
    refine ⟨?_, ?_, ?_⟩
    · intro y0 y1 y2 y3 y4 y5 y6 y7 y8 y9 y10 y11 y12
      unfold laws_FnExactConstantOf.j0
      repeat' first
      | (with_reducible exact ih0 _ _ _ _ _ _ _ _ _ _ _ _ _)
      | (with_reducible exact ih1 _ _ _ _ _ _ _ _ _)
      | (with_reducible exact ih2 _ _ _ _)
      | (with_reducible exact impl_ConstantOf.mono _ _ _ _)
      | (with_reducible exact laws_eqCyclo.mono _ _ _ _ _)
      | (with_reducible exact laws_eqGauss.mono _ _ _ _ _ _ _)
      | (with_reducible exact laws_heldCyclo.mono _ _ _ _)
      | (with_reducible exact laws_markCyclo.mono _ _ _ _)
      | (with_reducible exact laws_szGauss.mono _ _ _ _ _)
      | (with_reducible exact laws_toGauss.mono _ _ _ _)
      | (with_reducible exact spec_ConstantOf.mono _ _ _ _)
      | (with_reducible exact LeO.refl _)
      | (with_reducible exact LeO.none _)
      | (with_reducible refine LeO.ite ?_ ?_)
      | (with_reducible refine LeO.bind ?_ (fun _ => ?_))
      | exact ih0 _ _ _ _ _ _ _ _ _ _ _ _ _
      | exact ih1 _ _ _ _ _ _ _ _ _
      | exact ih2 _ _ _ _
      | exact impl_ConstantOf.mono _ _ _ _
      | exact laws_eqCyclo.mono _ _ _ _ _
      | exact laws_eqGauss.mono _ _ _ _ _ _ _
      | exact laws_heldCyclo.mono _ _ _ _
      | exact laws_markCyclo.mono _ _ _ _
      | exact laws_szGauss.mono _ _ _ _ _
      | exact laws_toGauss.mono _ _ _ _
      | exact spec_ConstantOf.mono _ _ _ _
      | exact LeO.none _
      | refine LeO.ite ?_ ?_
      | refine LeO.bind ?_ (fun _ => ?_)
    · intro y0 y1 y2 y3 y4 y5 y6 y7 y8
      unfold laws_FnExactConstantOf.j1
      repeat' first
      | (with_reducible exact ih0 _ _ _ _ _ _ _ _ _ _ _ _ _)
      | (with_reducible exact ih1 _ _ _ _ _ _ _ _ _)
      | (with_reducible exact ih2 _ _ _ _)
      | (with_reducible exact impl_ConstantOf.mono _ _ _ _)
      | (with_reducible exact laws_eqCyclo.mono _ _ _ _ _)
      | (with_reducible exact laws_eqGauss.mono _ _ _ _ _ _ _)
      | (with_reducible exact laws_heldCyclo.mono _ _ _ _)
      | (with_reducible exact laws_markCyclo.mono _ _ _ _)
      | (with_reducible exact laws_szGauss.mono _ _ _ _ _)
      | (with_reducible exact laws_toGauss.mono _ _ _ _)
      | (with_reducible exact spec_ConstantOf.mono _ _ _ _)
      | (with_reducible exact LeO.refl _)
      | (with_reducible exact LeO.none _)
      | (with_reducible refine LeO.ite ?_ ?_)
      | (with_reducible refine LeO.bind ?_ (fun _ => ?_))
      | exact ih0 _ _ _ _ _ _ _ _ _ _ _ _ _
      | exact ih1 _ _ _ _ _ _ _ _ _
      | exact ih2 _ _ _ _
      | exact impl_ConstantOf.mono _ _ _ _
      | exact laws_eqCyclo.mono _ _ _ _ _
      | exact laws_eqGauss.mono _ _ _ _ _ _ _
      | exact laws_heldCyclo.mono _ _ _ _
      | exact laws_markCyclo.mono _ _ _ _
      | exact laws_szGauss.mono _ _ _ _ _
      | exact laws_toGauss.mono _ _ _ _
      | exact spec_ConstantOf.mono _ _ _ _
      | exact LeO.none _
      | refine LeO.ite ?_ ?_
      | refine LeO.bind ?_ (fun _ => ?_)
    · intro y0 y1 y2 y3
      unfold laws_FnExactConstantOf.j2
      repeat' first
      | (with_reducible exact ih0 _ _ _ _ _ _ _ _ _ _ _ _ _)
      | (with_reducible exact ih1 _ _ _ _ _ _ _ _ _)
      | (with_reducible exact ih2 _ _ _ _)
      | (with_reducible exact impl_ConstantOf.mono _ _ _ _)
      | (with_reducible exact laws_eqCyclo.mono _ _ _ _ _)
      | (with_reducible exact laws_eqGauss.mono _ _ _ _ _ _ _)
      | (with_reducible exact laws_heldCyclo.mono _ _ _ _)
      | (with_reducible exact laws_markCyclo.mono _ _ _ _)
      | (with_reducible exact laws_szGauss.mono _ _ _ _ _)
      | (with_reducible exact laws_toGauss.mono _ _ _ _)
      | (with_reducible exact spec_ConstantOf.mono _ _ _ _)
      | (with_reducible exact LeO.refl _)
      | (with_reducible exact LeO.none _)
      | (with_reducible refine LeO.ite ?_ ?_)
      | (with_reducible refine LeO.bind ?_ (fun _ => ?_))
      | exact ih0 _ _ _ _ _ _ _ _ _ _ _ _ _
      | exact ih1 _ _ _ _ _ _ _ _ _
      | exact ih2 _ _ _ _
      | exact impl_ConstantOf.mono _ _ _ _
      | exact laws_eqCyclo.mono _ _ _ _ _
      | exact laws_eqGauss.mono _ _ _ _ _ _ _
      | exact laws_heldCyclo.mono _ _ _ _
      | exact laws_markCyclo.mono _ _ _ _
      | exact laws_szGauss.mono _ _ _ _ _
      | exact laws_toGauss.mono _ _ _ _
      | exact spec_ConstantOf.mono _ _ _ _
      | exact LeO.none _
      | refine LeO.ite ?_ ?_
      | refine LeO.bind ?_ (fun _ => ?_)
theorem laws_FnExactConstantOf.mono : ∀ a0 a1 a2 k, LeO (laws_FnExactConstantOf.f k a0 a1 a2) (laws_FnExactConstantOf.f (k + 1) a0 a1 a2) := by
  intro a0 a1 a2 k
  obtain ⟨ih0, ih1, ih2⟩ := laws_FnExactConstantOf.mono_l k
  unfold laws_FnExactConstantOf.f
  repeat' first
      | (with_reducible exact ih0 _ _ _ _ _ _ _ _ _ _ _ _ _)
      | (with_reducible exact ih1 _ _ _ _ _ _ _ _ _)
      | (with_reducible exact ih2 _ _ _ _)
      | (with_reducible exact impl_ConstantOf.mono _ _ _ _)
      | (with_reducible exact laws_eqCyclo.mono _ _ _ _ _)
      | (with_reducible exact laws_eqGauss.mono _ _ _ _ _ _ _)
      | (with_reducible exact laws_heldCyclo.mono _ _ _ _)
      | (with_reducible exact laws_markCyclo.mono _ _ _ _)
      | (with_reducible exact laws_szGauss.mono _ _ _ _ _)
      | (with_reducible exact laws_toGauss.mono _ _ _ _)
      | (with_reducible exact spec_ConstantOf.mono _ _ _ _)
      | (with_reducible exact LeO.refl _)
      | (with_reducible exact LeO.none _)
      | (with_reducible refine LeO.ite ?_ ?_)
      | (with_reducible refine LeO.bind ?_ (fun _ => ?_))
      | exact ih0 _ _ _ _ _ _ _ _ _ _ _ _ _
      | exact ih1 _ _ _ _ _ _ _ _ _
      | exact ih2 _ _ _ _
      | exact impl_ConstantOf.mono _ _ _ _
      | exact laws_eqCyclo.mono _ _ _ _ _
      | exact laws_eqGauss.mono _ _ _ _ _ _ _
      | exact laws_heldCyclo.mono _ _ _ _
      | exact laws_markCyclo.mono _ _ _ _
      | exact laws_szGauss.mono _ _ _ _ _
      | exact laws_toGauss.mono _ _ _ _
      | exact spec_ConstantOf.mono _ _ _ _
      | exact LeO.none _
      | refine LeO.ite ?_ ?_
      | refine LeO.bind ?_ (fun _ => ?_)
-- HAND
-- TRUE ALONE
theorem laws_FnExactConstantOf.j0_no (k : Nat) (y0 : Int) (y1 : Int) (y3 : Int) (y4 : Int) (y5 : List (List Int)) (y6 : Int) (y7 : List Int) (y8 : Int) (y9 : Int) (y10 : List (List Int)) (y11 : Int) (y12 : List Int) (h : laws_FnExactConstantOf.j0 k y0 y1 true y3 y4 y5 y6 y7 y8 y9 y10 y11 y12 = some true) : False := by
  cases k with
  | zero => first | (simp only [laws_FnExactConstantOf.j0] at h; done) | (simp only [laws_FnExactConstantOf.j0] at h; cases h)
  | succ k => rw [laws_FnExactConstantOf.j0, if_pos rfl] at h; cases h
theorem laws_FnExactConstantOf.j1_no (k : Nat) (y0 : Int) (y2 : Int) (y3 : Int) (y4 : List (List Int)) (y5 : Int) (y6 : List Int) (y7 : Int) (y8 : List Int) (h : laws_FnExactConstantOf.j1 k y0 true y2 y3 y4 y5 y6 y7 y8 = some true) : False := by
  cases k with
  | zero => first | (simp only [laws_FnExactConstantOf.j1] at h; done) | (simp only [laws_FnExactConstantOf.j1] at h; cases h)
  | succ k => rw [laws_FnExactConstantOf.j1, if_pos rfl] at h; cases h
theorem laws_FnExactConstantOf.j2_no (k : Nat) (y0 : Int) (y2 : Int) (y3 : List Int) (h : laws_FnExactConstantOf.j2 k y0 true y2 y3 = some true) : False := by
  cases k with
  | zero => first | (simp only [laws_FnExactConstantOf.j2] at h; done) | (simp only [laws_FnExactConstantOf.j2] at h; cases h)
  | succ k => rw [laws_FnExactConstantOf.j2, if_pos rfl] at h; cases h
set_option maxHeartbeats 8000000 in
set_option maxRecDepth 100000 in
theorem laws_FnExactConstantOf.calls (k : Nat) (a0_0 : Int) (a0_1 : Int) (A0_2 : Option Addr) (c0_2 : Nat) (l0_2 : List (List Int)) (w : World) (hr0_2 : Kd.C (Kd.slice 2 (Kd.int .i64)) w A0_2 l0_2.length l0_2) (hc0_2 : l0_2.length ≤ c0_2) (h : laws_FnExactConstantOf.f k a0_0 a0_1 l0_2 = some true) :
    Calls Try.prog 9 #[.agg #[.int .i64 a0_0, .int .i64 a0_1, .slice A0_2 l0_2.length c0_2]] w fun e w' => e = .returned (.bool true) ∧ Below w.heap.size w w' := by
  have hu44 := Try.underlying44
  have hu31 := Try.underlying31
  have hu28 := Try.underlying28
  have HR0_2 := Aside0.mk hr0_2
  have HC0_2 := Aside0.mk hc0_2
  clear hr0_2 hc0_2
  have HB := Aside0.mk (Below.refl w.heap.size w)
  have H : ((laws_szGauss.f k a0_0 a0_1 l0_2 1048576).bind fun t227 => (if t227 < 0 then (some true) else ((laws_toGauss.f k a0_0 a0_1 l0_2).bind fun bt228 => ((spec_ConstantOf.f k bt228.1 bt228.2.1 bt228.2.2).bind fun bt233 => ((laws_toGauss.f k a0_0 a0_1 l0_2).bind fun bt239 => ((impl_ConstantOf.f k bt239.1 bt239.2.1 bt239.2.2).bind fun bt245 => ((laws_eqCyclo.f k bt245.1 bt245.2.1 bt233.1 bt233.2.1).bind fun t251 => (if t251 = true then (laws_FnExactConstantOf.j0 k bt233.2.2 bt245.2.2 (bt245.2.2 != bt233.2.2) a0_0 a0_1 l0_2 bt233.1 bt233.2.1 bt239.1 bt239.2.1 bt239.2.2 bt245.1 bt245.2.1) else (laws_FnExactConstantOf.j0 k bt233.2.2 bt245.2.2 true a0_0 a0_1 l0_2 bt233.1 bt233.2.1 bt239.1 bt239.2.1 bt239.2.2 bt245.1 bt245.2.1))))))))) = some true := h
  clear h
  replace H := Option.bind_eq_some_iff.mp H
  obtain ⟨t227, A20, H⟩ := H
  replace H : (if t227 < 0 then (some true) else ((laws_toGauss.f k a0_0 a0_1 l0_2).bind fun bt228 => ((spec_ConstantOf.f k bt228.1 bt228.2.1 bt228.2.2).bind fun bt233 => ((laws_toGauss.f k a0_0 a0_1 l0_2).bind fun bt239 => ((impl_ConstantOf.f k bt239.1 bt239.2.1 bt239.2.2).bind fun bt245 => ((laws_eqCyclo.f k bt245.1 bt245.2.1 bt233.1 bt233.2.1).bind fun t251 => (if t251 = true then (laws_FnExactConstantOf.j0 k bt233.2.2 bt245.2.2 (bt245.2.2 != bt233.2.2) a0_0 a0_1 l0_2 bt233.1 bt233.2.1 bt239.1 bt239.2.1 bt239.2.2 bt245.1 bt245.2.1) else (laws_FnExactConstantOf.j0 k bt233.2.2 bt245.2.2 true a0_0 a0_1 l0_2 bt233.1 bt233.2.1 bt239.1 bt239.2.1 bt239.2.2 bt245.1 bt245.2.1)))))))) = some true := H
  have A2 := Aside0.mk A20
  clear A20
  by_cases c3 : t227 < 0
  · rw [if_pos c3] at H
    have c3b0 : decide (t227 < 0) = true := decide_eq_true c3
    clear c3
    clear H
    go_enter Try.func9, Try.ntmps9
    go_wp2_with (first | ((with_reducible refine gate_dst (N := 1) rfl ?_); refine box_event ?hg (N := 1) ?hd (cs := #[.int .i64 a0_0, .int .i64 a0_1, .slice A0_2 l0_2.length c0_2]) (t := 44) ?hr ?_; (case hd => rfl); (case hg => rfl); (case hr => first | (go_simp; done) | (go_simp; rfl)); intro gb226 hg w4 hbox hb; have n0_ := Aside0.mk (below_step qB32 hb); have n1_ := Aside0.mk (hbox); have n2_ := Aside0.mk ((by rw [hg]; exact (below_size qB32) : w.heap.size ≤ gb226)); have n3_ := Aside0.mk ((by rw [hg]; exact (below_size qB32) : w.heap.size ≤ gb226)); clear HB; have HB := n0_; have BK226 := n1_; have GW226 := n2_; have GE226 := n3_; clear n0_ n1_ n2_ n3_; clear hb hbox hg; have hcz5_0 : w4.cell? ⟨gb226, 0, none⟩ = some (.int .i64 a0_0) := (blk_cell BK226.out 0).trans rfl; have hcz5_1 : w4.cell? ⟨gb226, 1, none⟩ = some (.int .i64 a0_1) := (blk_cell BK226.out 1).trans rfl; have hcz5_2 : w4.cell? ⟨gb226, 2, none⟩ = some (.slice A0_2 l0_2.length c0_2) := (blk_cell BK226.out 2).trans rfl; have hfz5_0 := blk_frozen BK226.out 0; have hfz5_1 := blk_frozen BK226.out 1; have hfz5_2 := blk_frozen BK226.out 2) | ((with_reducible refine gate_callee (f := 23) rfl ?_); refine goesL_ (some 16) rfl rfl Try.func23 (by kernel_rfl) rfl #[.agg #[.int .i64 a0_0, .int .i64 a0_1, .slice A0_2 l0_2.length c0_2], .int .i64 1048576] rfl qB31 ?_; (with_reducible refine (laws_szGauss.calls k a0_0 a0_1 _ _ l0_2 1048576 t227 _ ?side1 ?side2 A2.out).mono ?_); (case side1 => repeat (first | exact (Kd.C_below HR0_2.out HB.out) | (with_reducible refine Kd.C_alloc ?_ _) | (with_reducible refine Kd.C_drewN ?_ _) | (with_reducible refine Kd.C_drew ?_))); (case side2 => exact HC0_2.out); rintro e w6 ⟨rfl, hb⟩; refine ⟨_, rfl, ?_⟩; have n0_ := Aside0.mk (blk_below (g := gb226) (o := .cells #[.int .i64 a0_0, .int .i64 a0_1, .slice A0_2 l0_2.length c0_2] 44 (0, 0)) qB49 hb); have n1_ := Aside0.mk (below_step qB30 hb); clear BK226; clear HB; have BK226 := n0_; have HB := n1_; clear n0_ n1_; (try clear hb); (try clear hb2); (try clear hk); (try clear hi)))
    go_ret
    exact ⟨by first | rfl | (simp [errW_none, errW_some] <;> rfl) | (simp [*, errW_none, errW_some] <;> rfl), by repeat (first | (with_reducible first | exact HB.out | apply below_alloc | apply pw_below_drewN | apply below_drew1 | refine below_set ?_ GE226.out) | exact HB.out)⟩
  · rw [if_neg c3] at H
    have c3b0 : decide (t227 < 0) = false := decide_eq_false c3
    clear c3
    replace H := Option.bind_eq_some_iff.mp H
    obtain ⟨⟨t228, t229, t230⟩, A70, H⟩ := H
    replace H : ((spec_ConstantOf.f k t228 t229 t230).bind fun bt233 => ((laws_toGauss.f k a0_0 a0_1 l0_2).bind fun bt239 => ((impl_ConstantOf.f k bt239.1 bt239.2.1 bt239.2.2).bind fun bt245 => ((laws_eqCyclo.f k bt245.1 bt245.2.1 bt233.1 bt233.2.1).bind fun t251 => (if t251 = true then (laws_FnExactConstantOf.j0 k bt233.2.2 bt245.2.2 (bt245.2.2 != bt233.2.2) a0_0 a0_1 l0_2 bt233.1 bt233.2.1 bt239.1 bt239.2.1 bt239.2.2 bt245.1 bt245.2.1) else (laws_FnExactConstantOf.j0 k bt233.2.2 bt245.2.2 true a0_0 a0_1 l0_2 bt233.1 bt233.2.1 bt239.1 bt239.2.1 bt239.2.2 bt245.1 bt245.2.1)))))) = some true := H
    have A7 := Aside0.mk A70
    clear A70
    replace H := Option.bind_eq_some_iff.mp H
    obtain ⟨⟨t233, t234, t237⟩, A80, H⟩ := H
    replace H : ((laws_toGauss.f k a0_0 a0_1 l0_2).bind fun bt239 => ((impl_ConstantOf.f k bt239.1 bt239.2.1 bt239.2.2).bind fun bt245 => ((laws_eqCyclo.f k bt245.1 bt245.2.1 t233 t234).bind fun t251 => (if t251 = true then (laws_FnExactConstantOf.j0 k t237 bt245.2.2 (bt245.2.2 != t237) a0_0 a0_1 l0_2 t233 t234 bt239.1 bt239.2.1 bt239.2.2 bt245.1 bt245.2.1) else (laws_FnExactConstantOf.j0 k t237 bt245.2.2 true a0_0 a0_1 l0_2 t233 t234 bt239.1 bt239.2.1 bt239.2.2 bt245.1 bt245.2.1))))) = some true := H
    have A8 := Aside0.mk A80
    clear A80
    replace H := Option.bind_eq_some_iff.mp H
    obtain ⟨⟨t239, t240, t241⟩, A90, H⟩ := H
    replace H : ((impl_ConstantOf.f k t239 t240 t241).bind fun bt245 => ((laws_eqCyclo.f k bt245.1 bt245.2.1 t233 t234).bind fun t251 => (if t251 = true then (laws_FnExactConstantOf.j0 k t237 bt245.2.2 (bt245.2.2 != t237) a0_0 a0_1 l0_2 t233 t234 t239 t240 t241 bt245.1 bt245.2.1) else (laws_FnExactConstantOf.j0 k t237 bt245.2.2 true a0_0 a0_1 l0_2 t233 t234 t239 t240 t241 bt245.1 bt245.2.1)))) = some true := H
    have A9 := Aside0.mk A90
    clear A90
    replace H := Option.bind_eq_some_iff.mp H
    obtain ⟨⟨t245, t246, t249⟩, A100, H⟩ := H
    replace H : ((laws_eqCyclo.f k t245 t246 t233 t234).bind fun t251 => (if t251 = true then (laws_FnExactConstantOf.j0 k t237 t249 (t249 != t237) a0_0 a0_1 l0_2 t233 t234 t239 t240 t241 t245 t246) else (laws_FnExactConstantOf.j0 k t237 t249 true a0_0 a0_1 l0_2 t233 t234 t239 t240 t241 t245 t246))) = some true := H
    have A10 := Aside0.mk A100
    clear A100
    have HC11 := Aside0.mk H
    clear H
    go_enter Try.func9, Try.ntmps9
    go_upto_region 8 with (first | ((with_reducible refine gate_dst (N := 1) rfl ?_); refine box_event ?hg (N := 1) ?hd (cs := #[.int .i64 a0_0, .int .i64 a0_1, .slice A0_2 l0_2.length c0_2]) (t := 44) ?hr ?_; (case hd => rfl); (case hg => rfl); (case hr => first | (go_simp; done) | (go_simp; rfl)); intro gb226 hg w12 hbox hb; have n0_ := Aside0.mk (below_step qB32 hb); have n1_ := Aside0.mk (hbox); have n2_ := Aside0.mk ((by rw [hg]; exact (below_size qB32) : w.heap.size ≤ gb226)); have n3_ := Aside0.mk ((by rw [hg]; exact (below_size qB32) : w.heap.size ≤ gb226)); clear HB; have HB := n0_; have BK226 := n1_; have GW226 := n2_; have GE226 := n3_; clear n0_ n1_ n2_ n3_; clear hb hbox hg; have hcz13_0 : w12.cell? ⟨gb226, 0, none⟩ = some (.int .i64 a0_0) := (blk_cell BK226.out 0).trans rfl; have hcz13_1 : w12.cell? ⟨gb226, 1, none⟩ = some (.int .i64 a0_1) := (blk_cell BK226.out 1).trans rfl; have hcz13_2 : w12.cell? ⟨gb226, 2, none⟩ = some (.slice A0_2 l0_2.length c0_2) := (blk_cell BK226.out 2).trans rfl; have hfz13_0 := blk_frozen BK226.out 0; have hfz13_1 := blk_frozen BK226.out 1; have hfz13_2 := blk_frozen BK226.out 2) | ((with_reducible refine gate_callee (f := 23) rfl ?_); refine goesL_ (some 16) rfl rfl Try.func23 (by kernel_rfl) rfl #[.agg #[.int .i64 a0_0, .int .i64 a0_1, .slice A0_2 l0_2.length c0_2], .int .i64 1048576] rfl qB31 ?_; (with_reducible refine (laws_szGauss.calls k a0_0 a0_1 _ _ l0_2 1048576 t227 _ ?side1 ?side2 A2.out).mono ?_); (case side1 => repeat (first | exact (Kd.C_below HR0_2.out HB.out) | (with_reducible refine Kd.C_alloc ?_ _) | (with_reducible refine Kd.C_drewN ?_ _) | (with_reducible refine Kd.C_drew ?_))); (case side2 => exact HC0_2.out); rintro e w14 ⟨rfl, hb⟩; refine ⟨_, rfl, ?_⟩; have n0_ := Aside0.mk (blk_below (g := gb226) (o := .cells #[.int .i64 a0_0, .int .i64 a0_1, .slice A0_2 l0_2.length c0_2] 44 (0, 0)) qB49 hb); have n1_ := Aside0.mk (below_step qB30 hb); clear BK226; clear HB; have BK226 := n0_; have HB := n1_; clear n0_ n1_; (try clear hb); (try clear hb2); (try clear hk); (try clear hi); have hcz15_0 : w14.cell? ⟨gb226, 0, none⟩ = some (.int .i64 a0_0) := (blk_cell BK226.out 0).trans rfl; have hcz15_1 : w14.cell? ⟨gb226, 1, none⟩ = some (.int .i64 a0_1) := (blk_cell BK226.out 1).trans rfl; have hcz15_2 : w14.cell? ⟨gb226, 2, none⟩ = some (.slice A0_2 l0_2.length c0_2) := (blk_cell BK226.out 2).trans rfl; have hfz15_0 := blk_frozen BK226.out 0; have hfz15_1 := blk_frozen BK226.out 1; have hfz15_2 := blk_frozen BK226.out 2) | ((with_reducible refine gate_callee (f := 25) rfl ?_); refine goesL_ (some 21) rfl rfl Try.func25 (by kernel_rfl) rfl #[.agg #[.int .i64 a0_0, .int .i64 a0_1, .slice A0_2 l0_2.length c0_2]] rfl qB31 ?_; (with_reducible refine (laws_toGauss.calls k a0_0 a0_1 _ _ l0_2 t228 t229 t230 _ ?side1 ?side2 A7.out).mono ?_); (case side1 => repeat (first | exact (Kd.C_below HR0_2.out HB.out) | (with_reducible refine Kd.C_alloc ?_ _) | (with_reducible refine Kd.C_drewN ?_ _) | (with_reducible refine Kd.C_drew ?_))); (case side2 => exact HC0_2.out); rintro e w16 ⟨v231, rfl, ho0, hb⟩; refine ⟨_, rfl, ?_⟩; have n0_ := Aside0.mk (Kd.S_lower ho0 (below_size qB30)); have n1_ := Aside0.mk (blk_below (g := gb226) (o := .cells #[.int .i64 a0_0, .int .i64 a0_1, .slice A0_2 l0_2.length c0_2] 44 (0, 0)) qB49 hb); have n2_ := Aside0.mk (below_step qB30 hb); clear BK226; clear HB; have HO232 := n0_; have BK226 := n1_; have HB := n2_; clear n0_ n1_ n2_; (try clear hb); (try clear hb2); (try clear hk); (try clear hi); (try clear ho0); obtain ⟨Ao17, co17, eo17⟩ := Kd.S_slice HO232.out; subst eo17) | ((with_reducible refine gate_callee (f := 33) rfl ?_); refine goesL_ (some 22) rfl rfl Try.func33 (by kernel_rfl) rfl #[.agg #[.int .i64 t228, .int .i64 t229, .slice Ao17 t230.length co17]] rfl qB31 ?_; (with_reducible refine (spec_ConstantOf.calls k t228 t229 _ _ t230 t233 t234 t237 _ ?side1 ?side2 A8.out).mono ?_); (case side1 => repeat (first | exact (Kd.S_reads' HO232.out).2.2 | (with_reducible refine Kd.C_alloc ?_ _) | (with_reducible refine Kd.C_drewN ?_ _) | (with_reducible refine Kd.C_drew ?_))); (case side2 => exact (Kd.S_reads' HO232.out).2.1); rintro e w18 ⟨v235, rfl, ho0, hb⟩; refine ⟨_, rfl, ?_⟩; have n0_ := Aside0.mk (Kd.S_elder' qB58 (Kd.R_base ho0) hb); have n1_ := Aside0.mk (Kd.R_lower ho0 (below_size qB30)); have n2_ := Aside0.mk (blk_below (g := gb226) (o := .cells #[.int .i64 a0_0, .int .i64 a0_1, .slice A0_2 l0_2.length c0_2] 44 (0, 0)) qB49 hb); have n3_ := Aside0.mk (below_step qB30 hb); clear HO232; clear BK226; clear HB; have HO232 := n0_; have HO236 := n1_; have BK226 := n2_; have HB := n3_; clear n0_ n1_ n2_ n3_; (try clear hb); (try clear hb2); (try clear hk); (try clear hi); (try clear ho0)) | ((with_reducible refine gate_dst (N := 4) rfl ?_); refine box_event ?hg (N := 4) ?hd (cs := #[.int .i64 0, .slice none 0 0]) (t := 31) ?hr ?_; (case hd => rfl); (case hg => rfl); (case hr => first | (go_simp; done) | (go_simp; rfl)); intro gb238 hg w19 hbox hb; have n0_ := Aside0.mk (Kd.S_below qB58 hb); have n1_ := Aside0.mk (Kd.R_below qB59 hb); have n2_ := Aside0.mk (blk_below (g := gb226) (o := .cells #[.int .i64 a0_0, .int .i64 a0_1, .slice A0_2 l0_2.length c0_2] 44 (0, 0)) qB49 hb); have n3_ := Aside0.mk (below_step qB30 hb); have n4_ := Aside0.mk (hbox); have n5_ := Aside0.mk ((by rw [hg]; exact (below_size qB30) : w.heap.size ≤ gb238)); have n6_ := Aside0.mk ((by rw [hg]; exact (below_size qB30) : w.heap.size ≤ gb238)); have n7_ := Aside0.mk ((by rw [hg]; exact Nat.ne_of_lt (blk_lt (g := gb226) (o := .cells #[.int .i64 a0_0, .int .i64 a0_1, .slice A0_2 l0_2.length c0_2] 44 (0, 0)) qB49) : gb226 ≠ gb238)); have n8_ := Aside0.mk ((by rw [hg]; exact Nat.ne_of_gt (blk_lt (g := gb226) (o := .cells #[.int .i64 a0_0, .int .i64 a0_1, .slice A0_2 l0_2.length c0_2] 44 (0, 0)) qB49) : gb238 ≠ gb226)); clear HO232; clear HO236; clear BK226; clear HB; have HO232 := n0_; have HO236 := n1_; have BK226 := n2_; have HB := n3_; have BK238 := n4_; have GW238 := n5_; have GE238 := n6_; have NB226_238 := n7_; have NB238_226 := n8_; clear n0_ n1_ n2_ n3_ n4_ n5_ n6_ n7_ n8_; clear hb hbox hg; have hnb20 := NB238_226.out; have hnc20 := NB226_238.out; have hcz21_0 : w19.cell? ⟨gb238, 0, none⟩ = some (.int .i64 0) := (blk_cell BK238.out 0).trans rfl; have hcz21_1 : w19.cell? ⟨gb238, 1, none⟩ = some (.slice none 0 0) := (blk_cell BK238.out 1).trans rfl; have hfz21_0 := blk_frozen BK238.out 0; have hfz21_1 := blk_frozen BK238.out 1; obtain ⟨Ao22, co22, eo22⟩ := Kd.R_slice HO236.out; subst eo22; have hcz23_0 : w19.cell? ⟨gb226, 0, none⟩ = some (.int .i64 a0_0) := (blk_cell BK226.out 0).trans rfl; have hcz23_1 : w19.cell? ⟨gb226, 1, none⟩ = some (.int .i64 a0_1) := (blk_cell BK226.out 1).trans rfl; have hcz23_2 : w19.cell? ⟨gb226, 2, none⟩ = some (.slice A0_2 l0_2.length c0_2) := (blk_cell BK226.out 2).trans rfl; have hfz23_0 := blk_frozen BK226.out 0; have hfz23_1 := blk_frozen BK226.out 1; have hfz23_2 := blk_frozen BK226.out 2) | ((with_reducible refine gate_callee (f := 25) rfl ?_); refine goesL_ (some 26) rfl rfl Try.func25 (by kernel_rfl) rfl #[.agg #[.int .i64 a0_0, .int .i64 a0_1, .slice A0_2 l0_2.length c0_2]] rfl qB31 ?_; (with_reducible refine (laws_toGauss.calls k a0_0 a0_1 _ _ l0_2 t239 t240 t241 _ ?side1 ?side2 A9.out).mono ?_); (case side1 => exact Kd.C_below HR0_2.out qB20); (case side2 => exact HC0_2.out); rintro e w24 ⟨v242, rfl, ho0, hb⟩; refine ⟨_, rfl, ?_⟩; have n0_ := Aside0.mk (Kd.S_elder' qB6 (Kd.S_base ho0) hb); have n1_ := Aside0.mk (Kd.R_below qB7 hb); have n2_ := Aside0.mk (Kd.S_lower (Kd.S_new' (Kd.S_new' ho0 (Kd.S_lt qB6)) (Kd.R_lt qB7)) (below_size qB20)); have n3_ := Aside0.mk (blk_below (g := gb226) (o := .cells #[.int .i64 a0_0, .int .i64 a0_1, .slice A0_2 l0_2.length c0_2] 44 (0, 0)) (by (with_reducible repeat (first | refine blk_drewN ?_ _ | refine blk_drew ?_ | refine blk_alloc ?_ _)); refine blk_far ?_ NB226_238.out _; (with_reducible repeat (first | refine blk_drewN ?_ _ | refine blk_drew ?_ | refine blk_alloc ?_ _)); refine blk_far ?_ NB226_238.out _; (with_reducible repeat (first | refine blk_drewN ?_ _ | refine blk_drew ?_ | refine blk_alloc ?_ _)); exact BK226.out) hb); have n4_ := Aside0.mk (blk_below (g := gb238) (o := .cells #[.int .i64 t233, .slice Ao22 t234.length co22] 31 (0, 0)) (by (with_reducible repeat (first | refine blk_drewN ?_ _ | refine blk_drew ?_ | refine blk_alloc ?_ _)); refine blk_put (cs := #[.int .i64 t233, .slice none 0 0]) ?_ 1 _ rfl; (with_reducible repeat (first | refine blk_drewN ?_ _ | refine blk_drew ?_ | refine blk_alloc ?_ _)); refine blk_put (cs := #[.int .i64 0, .slice none 0 0]) ?_ 0 _ rfl; (with_reducible repeat (first | refine blk_drewN ?_ _ | refine blk_drew ?_ | refine blk_alloc ?_ _)); exact BK238.out) hb); have n5_ := Aside0.mk (below_step qB20 hb); clear HO232; clear HO236; clear BK226; clear BK238; clear HB; have HO232 := n0_; have HO236 := n1_; have HO243 := n2_; have BK226 := n3_; have BK238 := n4_; have HB := n5_; clear n0_ n1_ n2_ n3_ n4_ n5_; (try clear hb); (try clear hb2); (try clear hk); (try clear hi); (try clear ho0)) | ((with_reducible refine gate_dst (N := 6) rfl ?_); refine box_event ?hg (N := 6) ?hd (cs := #[.int .i64 0, .int .i64 0, .slice none 0 0]) (t := 28) ?hr ?_; (case hd => rfl); (case hg => rfl); (case hr => first | (go_simp; done) | (go_simp; rfl)); intro gb244 hg w25 hbox hb; have n0_ := Aside0.mk (Kd.S_below qB58 hb); have n1_ := Aside0.mk (Kd.R_below qB59 hb); have n2_ := Aside0.mk (Kd.S_below qB60 hb); have n3_ := Aside0.mk (blk_below (g := gb226) (o := .cells #[.int .i64 a0_0, .int .i64 a0_1, .slice A0_2 l0_2.length c0_2] 44 (0, 0)) qB49 hb); have n4_ := Aside0.mk (blk_below (g := gb238) (o := .cells #[.int .i64 t233, .slice Ao22 t234.length co22] 31 (0, 0)) qB50 hb); have n5_ := Aside0.mk (below_step qB20 hb); have n6_ := Aside0.mk (hbox); have n7_ := Aside0.mk ((by rw [hg]; exact (below_size qB20) : w.heap.size ≤ gb244)); have n8_ := Aside0.mk ((by rw [hg]; exact (below_size qB20) : w.heap.size ≤ gb244)); have n9_ := Aside0.mk ((by rw [hg]; exact Nat.ne_of_lt (blk_lt (g := gb226) (o := .cells #[.int .i64 a0_0, .int .i64 a0_1, .slice A0_2 l0_2.length c0_2] 44 (0, 0)) qB49) : gb226 ≠ gb244)); have n10_ := Aside0.mk ((by rw [hg]; exact Nat.ne_of_gt (blk_lt (g := gb226) (o := .cells #[.int .i64 a0_0, .int .i64 a0_1, .slice A0_2 l0_2.length c0_2] 44 (0, 0)) qB49) : gb244 ≠ gb226)); have n11_ := Aside0.mk ((by rw [hg]; exact Nat.ne_of_lt (blk_lt (g := gb238) (o := .cells #[.int .i64 t233, .slice Ao22 t234.length co22] 31 (0, 0)) qB50) : gb238 ≠ gb244)); have n12_ := Aside0.mk ((by rw [hg]; exact Nat.ne_of_gt (blk_lt (g := gb238) (o := .cells #[.int .i64 t233, .slice Ao22 t234.length co22] 31 (0, 0)) qB50) : gb244 ≠ gb238)); clear HO232; clear HO236; clear HO243; clear BK226; clear BK238; clear HB; have HO232 := n0_; have HO236 := n1_; have HO243 := n2_; have BK226 := n3_; have BK238 := n4_; have HB := n5_; have BK244 := n6_; have GW244 := n7_; have GE244 := n8_; have NB226_244 := n9_; have NB244_226 := n10_; have NB238_244 := n11_; have NB244_238 := n12_; clear n0_ n1_ n2_ n3_ n4_ n5_ n6_ n7_ n8_ n9_ n10_ n11_ n12_; clear hb hbox hg; have hnb26 := NB244_226.out; have hnc26 := NB226_244.out; have hnb27 := NB244_238.out; have hnc27 := NB238_244.out; have hcz28_0 : w25.cell? ⟨gb244, 0, none⟩ = some (.int .i64 0) := (blk_cell BK244.out 0).trans rfl; have hcz28_1 : w25.cell? ⟨gb244, 1, none⟩ = some (.int .i64 0) := (blk_cell BK244.out 1).trans rfl; have hcz28_2 : w25.cell? ⟨gb244, 2, none⟩ = some (.slice none 0 0) := (blk_cell BK244.out 2).trans rfl; have hfz28_0 := blk_frozen BK244.out 0; have hfz28_1 := blk_frozen BK244.out 1; have hfz28_2 := blk_frozen BK244.out 2; obtain ⟨Ao29, co29, eo29⟩ := Kd.S_slice HO243.out; subst eo29) | ((with_reducible refine gate_callee (f := 34) rfl ?_); refine goesL_ (some 29) rfl rfl Try.func34 (by kernel_rfl) rfl #[.agg #[.int .i64 t239, .int .i64 t240, .slice Ao29 t241.length co29]] rfl qB31 ?_; (with_reducible refine (impl_ConstantOf.calls k t239 t240 _ _ t241 t245 t246 t249 _ ?side1 ?side2 A10.out).mono ?_); (case side1 => refine (Kd.S_reads' (e := 22) (base := w.heap.size) (ok := fun k_ => ((True ∧ some k_ ≠ (.slice Ao17 t230.length co17 : Value).ownBlock) ∧ some k_ ≠ (.slice Ao22 t234.length co22 : Value).ownBlock)) (n := t241.length) (c := co29) ?_).2.2; exact qB2); (case side2 => exact (Kd.S_reads' HO243.out).2.1); rintro e w30 ⟨v247, rfl, ho0, hb⟩; refine ⟨_, rfl, ?_⟩; have n0_ := Aside0.mk (Kd.S_elder' (by (with_reducible repeat (first | apply Kd.S_alloc | apply Kd.S_drewN | apply Kd.S_drew)); exact (Kd.S_mono (Kd.S_far (p := ⟨gb244, 2, none⟩) (Kd.S_far (p := ⟨gb244, 1, none⟩) (Kd.S_far (p := ⟨gb244, 0, none⟩) (Kd.S_types HO232.out BK244.out (by decide)) (fun _ hk => hk.2) (.int .i64 t239)) (fun _ hk => hk.2) (.int .i64 t240)) (fun _ hk => hk.2) (.slice Ao29 t241.length co29)) (fun _ h_ => h_.1))) (Kd.R_base ho0) hb); have n1_ := Aside0.mk (Kd.R_elder' qB3 (Kd.R_base ho0) hb); have n2_ := Aside0.mk (Kd.S_elder' qB2 (Kd.R_base ho0) hb); have n3_ := Aside0.mk (Kd.R_lower (Kd.R_new' ho0 (Kd.R_lt qB3)) (below_size qB14)); have n4_ := Aside0.mk (blk_below (g := gb226) (o := .cells #[.int .i64 a0_0, .int .i64 a0_1, .slice A0_2 l0_2.length c0_2] 44 (0, 0)) (by (with_reducible repeat (first | refine blk_drewN ?_ _ | refine blk_drew ?_ | refine blk_alloc ?_ _)); refine blk_far ?_ NB226_244.out _; (with_reducible repeat (first | refine blk_drewN ?_ _ | refine blk_drew ?_ | refine blk_alloc ?_ _)); refine blk_far ?_ NB226_244.out _; (with_reducible repeat (first | refine blk_drewN ?_ _ | refine blk_drew ?_ | refine blk_alloc ?_ _)); refine blk_far ?_ NB226_244.out _; (with_reducible repeat (first | refine blk_drewN ?_ _ | refine blk_drew ?_ | refine blk_alloc ?_ _)); exact BK226.out) hb); have n5_ := Aside0.mk (blk_below (g := gb238) (o := .cells #[.int .i64 t233, .slice Ao22 t234.length co22] 31 (0, 0)) (by (with_reducible repeat (first | refine blk_drewN ?_ _ | refine blk_drew ?_ | refine blk_alloc ?_ _)); refine blk_far ?_ NB238_244.out _; (with_reducible repeat (first | refine blk_drewN ?_ _ | refine blk_drew ?_ | refine blk_alloc ?_ _)); refine blk_far ?_ NB238_244.out _; (with_reducible repeat (first | refine blk_drewN ?_ _ | refine blk_drew ?_ | refine blk_alloc ?_ _)); refine blk_far ?_ NB238_244.out _; (with_reducible repeat (first | refine blk_drewN ?_ _ | refine blk_drew ?_ | refine blk_alloc ?_ _)); exact BK238.out) hb); have n6_ := Aside0.mk (blk_below (g := gb244) (o := .cells #[.int .i64 t239, .int .i64 t240, .slice Ao29 t241.length co29] 28 (0, 0)) (by (with_reducible repeat (first | refine blk_drewN ?_ _ | refine blk_drew ?_ | refine blk_alloc ?_ _)); refine blk_put (cs := #[.int .i64 t239, .int .i64 t240, .slice none 0 0]) ?_ 2 _ rfl; (with_reducible repeat (first | refine blk_drewN ?_ _ | refine blk_drew ?_ | refine blk_alloc ?_ _)); refine blk_put (cs := #[.int .i64 t239, .int .i64 0, .slice none 0 0]) ?_ 1 _ rfl; (with_reducible repeat (first | refine blk_drewN ?_ _ | refine blk_drew ?_ | refine blk_alloc ?_ _)); refine blk_put (cs := #[.int .i64 0, .int .i64 0, .slice none 0 0]) ?_ 0 _ rfl; (with_reducible repeat (first | refine blk_drewN ?_ _ | refine blk_drew ?_ | refine blk_alloc ?_ _)); exact BK244.out) hb); have n7_ := Aside0.mk (below_step qB14 hb); clear HO232; clear HO236; clear HO243; clear BK226; clear BK238; clear BK244; clear HB; have HO232 := n0_; have HO236 := n1_; have HO243 := n2_; have HO248 := n3_; have BK226 := n4_; have BK238 := n5_; have BK244 := n6_; have HB := n7_; clear n0_ n1_ n2_ n3_ n4_ n5_ n6_ n7_; (try clear hb); (try clear hb2); (try clear hk); (try clear hi); (try clear ho0)) | ((with_reducible refine gate_dst (N := 7) rfl ?_); refine box_event ?hg (N := 7) ?hd (cs := #[.int .i64 0, .slice none 0 0]) (t := 31) ?hr ?_; (case hd => rfl); (case hg => rfl); (case hr => first | (go_simp; done) | (go_simp; rfl)); intro gb250 hg w31 hbox hb; have n0_ := Aside0.mk (Kd.S_below qB58 hb); have n1_ := Aside0.mk (Kd.R_below qB59 hb); have n2_ := Aside0.mk (Kd.S_below qB60 hb); have n3_ := Aside0.mk (Kd.R_below (by (with_reducible repeat (first | apply Kd.R_alloc | apply Kd.R_drewN | apply Kd.R_drew)); exact HO248.out) hb); have n4_ := Aside0.mk (blk_below (g := gb226) (o := .cells #[.int .i64 a0_0, .int .i64 a0_1, .slice A0_2 l0_2.length c0_2] 44 (0, 0)) qB49 hb); have n5_ := Aside0.mk (blk_below (g := gb238) (o := .cells #[.int .i64 t233, .slice Ao22 t234.length co22] 31 (0, 0)) qB50 hb); have n6_ := Aside0.mk (blk_below (g := gb244) (o := .cells #[.int .i64 t239, .int .i64 t240, .slice Ao29 t241.length co29] 28 (0, 0)) qB51 hb); have n7_ := Aside0.mk (below_step qB14 hb); have n8_ := Aside0.mk (hbox); have n9_ := Aside0.mk ((by rw [hg]; exact (below_size qB14) : w.heap.size ≤ gb250)); have n10_ := Aside0.mk ((by rw [hg]; exact (below_size qB14) : w.heap.size ≤ gb250)); have n11_ := Aside0.mk ((by rw [hg]; exact Nat.ne_of_lt (blk_lt (g := gb226) (o := .cells #[.int .i64 a0_0, .int .i64 a0_1, .slice A0_2 l0_2.length c0_2] 44 (0, 0)) qB49) : gb226 ≠ gb250)); have n12_ := Aside0.mk ((by rw [hg]; exact Nat.ne_of_gt (blk_lt (g := gb226) (o := .cells #[.int .i64 a0_0, .int .i64 a0_1, .slice A0_2 l0_2.length c0_2] 44 (0, 0)) qB49) : gb250 ≠ gb226)); have n13_ := Aside0.mk ((by rw [hg]; exact Nat.ne_of_lt (blk_lt (g := gb238) (o := .cells #[.int .i64 t233, .slice Ao22 t234.length co22] 31 (0, 0)) qB50) : gb238 ≠ gb250)); have n14_ := Aside0.mk ((by rw [hg]; exact Nat.ne_of_gt (blk_lt (g := gb238) (o := .cells #[.int .i64 t233, .slice Ao22 t234.length co22] 31 (0, 0)) qB50) : gb250 ≠ gb238)); have n15_ := Aside0.mk ((by rw [hg]; exact Nat.ne_of_lt (blk_lt (g := gb244) (o := .cells #[.int .i64 t239, .int .i64 t240, .slice Ao29 t241.length co29] 28 (0, 0)) qB51) : gb244 ≠ gb250)); have n16_ := Aside0.mk ((by rw [hg]; exact Nat.ne_of_gt (blk_lt (g := gb244) (o := .cells #[.int .i64 t239, .int .i64 t240, .slice Ao29 t241.length co29] 28 (0, 0)) qB51) : gb250 ≠ gb244)); clear HO232; clear HO236; clear HO243; clear HO248; clear BK226; clear BK238; clear BK244; clear HB; have HO232 := n0_; have HO236 := n1_; have HO243 := n2_; have HO248 := n3_; have BK226 := n4_; have BK238 := n5_; have BK244 := n6_; have HB := n7_; have BK250 := n8_; have GW250 := n9_; have GE250 := n10_; have NB226_250 := n11_; have NB250_226 := n12_; have NB238_250 := n13_; have NB250_238 := n14_; have NB244_250 := n15_; have NB250_244 := n16_; clear n0_ n1_ n2_ n3_ n4_ n5_ n6_ n7_ n8_ n9_ n10_ n11_ n12_ n13_ n14_ n15_ n16_; clear hb hbox hg; have hnb32 := NB250_226.out; have hnc32 := NB226_250.out; have hnb33 := NB250_238.out; have hnc33 := NB238_250.out; have hnb34 := NB250_244.out; have hnc34 := NB244_250.out; have hcz35_0 : w31.cell? ⟨gb250, 0, none⟩ = some (.int .i64 0) := (blk_cell BK250.out 0).trans rfl; have hcz35_1 : w31.cell? ⟨gb250, 1, none⟩ = some (.slice none 0 0) := (blk_cell BK250.out 1).trans rfl; have hfz35_0 := blk_frozen BK250.out 0; have hfz35_1 := blk_frozen BK250.out 1; obtain ⟨Ao36, co36, eo36⟩ := Kd.R_slice HO248.out; subst eo36))
    (try simp only [Act.put, List.setIfInBounds_toArray, List.set_cons_zero, List.set_cons_succ])
    go_cut [40] (fun v40 wc => ∃ (kq : Nat) (x40_10 : Bool), v40 = .bool x40_10 ∧ Aside0 (laws_FnExactConstantOf.j0 kq t237 t249 x40_10 a0_0 a0_1 l0_2 t233 t234 t239 t240 t241 t245 t246 = some true) ∧ Aside0 (kq ≤ k) ∧ Aside0 (Kd.R (Kd.int .i64) 2 wc w.heap.size (fun k_ => some k_ ≠ ((.slice Ao36 t246.length co36) : Value).ownBlock) (.slice Ao22 t234.length co22) t234) ∧ Aside0 (Kd.S (Kd.slice 2 (Kd.int .i64)) 22 wc w.heap.size (fun k_ => some k_ ≠ ((.slice Ao22 t234.length co22) : Value).ownBlock ∧ some k_ ≠ ((.slice Ao36 t246.length co36) : Value).ownBlock) (.slice Ao29 t241.length co29) t241) ∧ Aside0 (Kd.R (Kd.int .i64) 2 wc w.heap.size (fun k_ => some k_ ≠ ((.slice Ao22 t234.length co22) : Value).ownBlock) (.slice Ao36 t246.length co36) t246) ∧ Aside0 (wc.heap[gb226]? = some (.cells #[.int .i64 a0_0, .int .i64 a0_1, (.slice A0_2 l0_2.length c0_2)] 44 (0, 0))) ∧ Aside0 (wc.heap[gb238]? = some (.cells #[.int .i64 t233, (.slice Ao22 t234.length co22)] 31 (0, 0))) ∧ Aside0 (wc.heap[gb244]? = some (.cells #[.int .i64 t239, .int .i64 t240, (.slice Ao29 t241.length co29)] 28 (0, 0))) ∧ Aside0 (wc.heap[gb250]? = some (.cells #[.int .i64 t245, (.slice Ao36 t246.length co36)] 31 (0, 0))) ∧ Aside0 (Below w.heap.size w wc))
    case first =>
      have H := HC11.out
      clear HC11
      replace H := Option.bind_eq_some_iff.mp H
      obtain ⟨t251, A370, H⟩ := H
      replace H : (if t251 = true then (laws_FnExactConstantOf.j0 k t237 t249 (t249 != t237) a0_0 a0_1 l0_2 t233 t234 t239 t240 t241 t245 t246) else (laws_FnExactConstantOf.j0 k t237 t249 true a0_0 a0_1 l0_2 t233 t234 t239 t240 t241 t245 t246)) = some true := H
      have A37 := Aside0.mk A370
      clear A370
      by_cases c38 : t251 = true
      · subst c38
        have H1 : (laws_FnExactConstantOf.j0 k t237 t249 (t249 != t237) a0_0 a0_1 l0_2 t233 t234 t239 t240 t241 t245 t246) = some true := by rw [if_pos rfl] at H; exact H
        clear H
        have H := H1
        clear H1
        have H' := Aside0.mk H
        clear H
        have hnb39 := NB250_226.out
        have hnc39 := NB226_250.out
        have hnb40 := NB250_238.out
        have hnc40 := NB238_250.out
        have hnb41 := NB250_244.out
        have hnc41 := NB244_250.out
        have hcz42_0 : w31.cell? ⟨gb250, 0, none⟩ = some (.int .i64 0) := (blk_cell BK250.out 0).trans rfl
        have hcz42_1 : w31.cell? ⟨gb250, 1, none⟩ = some (.slice none 0 0) := (blk_cell BK250.out 1).trans rfl
        have hfz42_0 := blk_frozen BK250.out 0
        have hfz42_1 := blk_frozen BK250.out 1
        have hnb43 := NB238_226.out
        have hnc43 := NB226_238.out
        have hnb44 := NB238_244.out
        have hnc44 := NB244_238.out
        have hcz45_0 : w31.cell? ⟨gb238, 0, none⟩ = some (.int .i64 t233) := (blk_cell BK238.out 0).trans rfl
        have hcz45_1 : w31.cell? ⟨gb238, 1, none⟩ = some (.slice Ao22 t234.length co22) := (blk_cell BK238.out 1).trans rfl
        have hfz45_0 := blk_frozen BK238.out 0
        have hfz45_1 := blk_frozen BK238.out 1
        go_wp2_with (first | ((with_reducible refine gate_callee (f := 16) rfl ?_); refine goesL_ (some 34) rfl rfl Try.func16 (by kernel_rfl) rfl #[.agg #[.int .i64 t245, .slice Ao36 t246.length co36], .agg #[.int .i64 t233, .slice Ao22 t234.length co22]] rfl qB31 ?_; (with_reducible refine (laws_eqCyclo.calls k t245 _ _ t246 t233 _ _ t234 true _ ?side1 ?side2 ?side3 ?side4 A37.out).mono ?_); (case side1 => refine (Kd.R_reads' (e := 2) (base := w.heap.size) (ok := fun k_ => (True ∧ some k_ ≠ (.slice Ao22 t234.length co22 : Value).ownBlock)) (n := t246.length) (c := co36) ?_).2.2; exact qB8); (case side2 => exact (Kd.R_reads' HO248.out).2.1); (case side3 => refine (Kd.R_reads' (e := 2) (base := w.heap.size) (ok := fun k_ => (True ∧ some k_ ≠ (.slice Ao36 t246.length co36 : Value).ownBlock)) (n := t234.length) (c := co22) ?_).2.2; exact qB9); (case side4 => exact (Kd.R_reads' HO236.out).2.1); rintro e w46 ⟨rfl, hb⟩; refine ⟨_, rfl, ?_⟩; have n0_ := Aside0.mk (Kd.S_below (by (with_reducible repeat (first | apply Kd.S_alloc | apply Kd.S_drewN | apply Kd.S_drew)); exact (Kd.S_mono (Kd.S_far (p := ⟨gb250, 1, none⟩) (Kd.S_far (p := ⟨gb250, 0, none⟩) (Kd.S_types HO232.out BK250.out (by decide)) (fun _ hk => hk.2) (.int .i64 t245)) (fun _ hk => hk.2) (.slice Ao36 t246.length co36)) (fun _ h_ => h_.1))) hb); have n1_ := Aside0.mk (Kd.R_below qB9 hb); have n2_ := Aside0.mk (Kd.S_below (by (with_reducible repeat (first | apply Kd.S_alloc | apply Kd.S_drewN | apply Kd.S_drew)); exact (Kd.S_mono (Kd.S_far (p := ⟨gb250, 1, none⟩) (Kd.S_far (p := ⟨gb250, 0, none⟩) (Kd.S_types HO243.out BK250.out (by decide)) (fun _ hk => hk.2) (.int .i64 t245)) (fun _ hk => hk.2) (.slice Ao36 t246.length co36)) (fun _ h_ => h_.1))) hb); have n3_ := Aside0.mk (Kd.R_below qB8 hb); have n4_ := Aside0.mk (blk_below (g := gb226) (o := .cells #[.int .i64 a0_0, .int .i64 a0_1, .slice A0_2 l0_2.length c0_2] 44 (0, 0)) (by (with_reducible repeat (first | refine blk_drewN ?_ _ | refine blk_drew ?_ | refine blk_alloc ?_ _)); refine blk_far ?_ NB226_250.out _; (with_reducible repeat (first | refine blk_drewN ?_ _ | refine blk_drew ?_ | refine blk_alloc ?_ _)); refine blk_far ?_ NB226_250.out _; (with_reducible repeat (first | refine blk_drewN ?_ _ | refine blk_drew ?_ | refine blk_alloc ?_ _)); exact BK226.out) hb); have n5_ := Aside0.mk (blk_below (g := gb238) (o := .cells #[.int .i64 t233, .slice Ao22 t234.length co22] 31 (0, 0)) (by (with_reducible repeat (first | refine blk_drewN ?_ _ | refine blk_drew ?_ | refine blk_alloc ?_ _)); refine blk_far ?_ NB238_250.out _; (with_reducible repeat (first | refine blk_drewN ?_ _ | refine blk_drew ?_ | refine blk_alloc ?_ _)); refine blk_far ?_ NB238_250.out _; (with_reducible repeat (first | refine blk_drewN ?_ _ | refine blk_drew ?_ | refine blk_alloc ?_ _)); exact BK238.out) hb); have n6_ := Aside0.mk (blk_below (g := gb244) (o := .cells #[.int .i64 t239, .int .i64 t240, .slice Ao29 t241.length co29] 28 (0, 0)) (by (with_reducible repeat (first | refine blk_drewN ?_ _ | refine blk_drew ?_ | refine blk_alloc ?_ _)); refine blk_far ?_ NB244_250.out _; (with_reducible repeat (first | refine blk_drewN ?_ _ | refine blk_drew ?_ | refine blk_alloc ?_ _)); refine blk_far ?_ NB244_250.out _; (with_reducible repeat (first | refine blk_drewN ?_ _ | refine blk_drew ?_ | refine blk_alloc ?_ _)); exact BK244.out) hb); have n7_ := Aside0.mk (blk_below (g := gb250) (o := .cells #[.int .i64 t245, .slice Ao36 t246.length co36] 31 (0, 0)) (by (with_reducible repeat (first | refine blk_drewN ?_ _ | refine blk_drew ?_ | refine blk_alloc ?_ _)); refine blk_put (cs := #[.int .i64 t245, .slice none 0 0]) ?_ 1 _ rfl; (with_reducible repeat (first | refine blk_drewN ?_ _ | refine blk_drew ?_ | refine blk_alloc ?_ _)); refine blk_put (cs := #[.int .i64 0, .slice none 0 0]) ?_ 0 _ rfl; (with_reducible repeat (first | refine blk_drewN ?_ _ | refine blk_drew ?_ | refine blk_alloc ?_ _)); exact BK250.out) hb); have n8_ := Aside0.mk (below_step qB11 hb); clear HO232; clear HO236; clear HO243; clear HO248; clear BK226; clear BK238; clear BK244; clear BK250; clear HB; have HO232 := n0_; have HO236 := n1_; have HO243 := n2_; have HO248 := n3_; have BK226 := n4_; have BK238 := n5_; have BK244 := n6_; have BK250 := n7_; have HB := n8_; clear n0_ n1_ n2_ n3_ n4_ n5_ n6_ n7_ n8_; (try clear hb); (try clear hb2); (try clear hk); (try clear hi)))
        go_meet
        case rel => exact ⟨_, ((t249 != t237)), qB66, H', ⟨by first | omega | exact Nat.le_refl _⟩, ⟨by (with_reducible repeat (first | apply Kd.R_alloc | apply Kd.R_drewN | apply Kd.R_drew)); exact Kd.R_mono HO236.out (fun _ hk => hk.2)⟩, ⟨by (with_reducible repeat (first | apply Kd.S_alloc | apply Kd.S_drewN | apply Kd.S_drew)); exact Kd.S_mono HO243.out (fun _ hk => ⟨hk.1.2, hk.2⟩)⟩, ⟨by (with_reducible repeat (first | apply Kd.R_alloc | apply Kd.R_drewN | apply Kd.R_drew)); exact Kd.R_mono HO248.out (fun _ hk => hk.2)⟩, ⟨by (with_reducible repeat (first | refine blk_drewN ?_ _ | refine blk_drew ?_ | refine blk_alloc ?_ _)); exact BK226.out⟩, ⟨by (with_reducible repeat (first | refine blk_drewN ?_ _ | refine blk_drew ?_ | refine blk_alloc ?_ _)); exact BK238.out⟩, ⟨by (with_reducible repeat (first | refine blk_drewN ?_ _ | refine blk_drew ?_ | refine blk_alloc ?_ _)); exact BK244.out⟩, ⟨by (with_reducible repeat (first | refine blk_drewN ?_ _ | refine blk_drew ?_ | refine blk_alloc ?_ _)); exact BK250.out⟩, ⟨by repeat (first | (with_reducible first | exact HB.out | apply below_alloc | apply pw_below_drewN | apply below_drew1 | refine below_set ?_ GE226.out | refine below_set ?_ GE238.out | refine below_set ?_ GE244.out | refine below_set ?_ GE250.out) | exact HB.out)⟩⟩
      · replace c38 := Bool.eq_false_iff.mpr c38
        subst c38
        have H1 : (laws_FnExactConstantOf.j0 k t237 t249 true a0_0 a0_1 l0_2 t233 t234 t239 t240 t241 t245 t246) = some true := by rw [if_neg (show ¬ (false = true) by decide)] at H; exact H
        exact (laws_FnExactConstantOf.j0_no _ _ _ _ _ _ _ _ _ _ _ _ _ H1).elim
    case rest =>
      clear HC11
      try clear c1
      try clear c2
      try clear p2
      try clear c3
      try clear c3b0
      try clear c4
      try clear c5
      try clear c9
      try clear c16
      try clear c20
      try clear c23
      try clear c25
      try clear c26
      try clear c27
      try clear c32
      try clear c33
      try clear c34
      try clear c38
      try clear c39
      try clear c40
      try clear c41
      try clear c43
      try clear c44
      try clear c47
      try clear c48
      try clear c49
      try clear c51
      try clear c52
      try clear hcz13_0
      try clear hcz13_1
      try clear hcz13_2
      try clear hcz15_0
      try clear hcz15_1
      try clear hcz15_2
      try clear hcz21_0
      try clear hcz21_1
      try clear hcz23_0
      try clear hcz23_1
      try clear hcz23_2
      try clear hcz28_0
      try clear hcz28_1
      try clear hcz28_2
      try clear hcz35_0
      try clear hcz35_1
      try clear hcz42_0
      try clear hcz42_1
      try clear hcz45_0
      try clear hcz45_1
      try clear hcz50_0
      try clear hcz50_1
      try clear hcz53_0
      try clear hcz53_1
      try clear hcz5_0
      try clear hcz5_1
      try clear hcz5_2
      try clear hfz13_0
      try clear hfz13_1
      try clear hfz13_2
      try clear hfz15_0
      try clear hfz15_1
      try clear hfz15_2
      try clear hfz21_0
      try clear hfz21_1
      try clear hfz23_0
      try clear hfz23_1
      try clear hfz23_2
      try clear hfz28_0
      try clear hfz28_1
      try clear hfz28_2
      try clear hfz35_0
      try clear hfz35_1
      try clear hfz42_0
      try clear hfz42_1
      try clear hfz45_0
      try clear hfz45_1
      try clear hfz50_0
      try clear hfz50_1
      try clear hfz53_0
      try clear hfz53_1
      try clear hfz5_0
      try clear hfz5_1
      try clear hfz5_2
      obtain ⟨kq, x40_10, rfl, HA, HJ10, HO_239001, HO_245002, HO_251001, BK226, BK238, BK244, BK250, HB⟩ := hcut
      cases kq with
      | zero => exact absurd HA.out (by simp [laws_FnExactConstantOf.j0])
      | succ kj10 =>
        have H := HA.out
        clear HA
        simp only [laws_FnExactConstantOf.j0] at H
        by_cases c55 : x40_10 = true
        · subst c55
          have H1 : (some false) = some true := by rw [if_pos rfl] at H; exact H
          cases H1
        · replace c55 := Bool.eq_false_iff.mpr c55
          subst c55
          have H1 : ((laws_toGauss.f kj10 a0_0 a0_1 l0_2).bind fun bt252 => ((laws_eqGauss.f kj10 t239 t240 t241 bt252.1 bt252.2.1 bt252.2.2).bind fun t257 => (if t257 = true then ((laws_markG_B.f t239 t240 t241 1).bind fun t258 => (if t258 < 0 then (laws_FnExactConstantOf.j1 kj10 t237 true a0_0 a0_1 l0_2 t233 t234 t245 t246) else ((laws_eqCyclo.f kj10 t245 t246 t233 t234).bind fun t259 => (if t259 = true then (laws_FnExactConstantOf.j1 kj10 t237 (t249 != t237) a0_0 a0_1 l0_2 t233 t234 t245 t246) else (laws_FnExactConstantOf.j1 kj10 t237 true a0_0 a0_1 l0_2 t233 t234 t245 t246))))) else (some false)))) = some true := by rw [if_neg (show ¬ (false = true) by decide)] at H; exact H
          clear H
          have H := H1
          clear H1
          replace H := Option.bind_eq_some_iff.mp H
          obtain ⟨⟨t252, t253, t254⟩, A560, H⟩ := H
          replace H : ((laws_eqGauss.f kj10 t239 t240 t241 t252 t253 t254).bind fun t257 => (if t257 = true then ((laws_markG_B.f t239 t240 t241 1).bind fun t258 => (if t258 < 0 then (laws_FnExactConstantOf.j1 kj10 t237 true a0_0 a0_1 l0_2 t233 t234 t245 t246) else ((laws_eqCyclo.f kj10 t245 t246 t233 t234).bind fun t259 => (if t259 = true then (laws_FnExactConstantOf.j1 kj10 t237 (t249 != t237) a0_0 a0_1 l0_2 t233 t234 t245 t246) else (laws_FnExactConstantOf.j1 kj10 t237 true a0_0 a0_1 l0_2 t233 t234 t245 t246))))) else (some false))) = some true := H
          have A56 := Aside0.mk A560
          clear A560
          replace H := Option.bind_eq_some_iff.mp H
          obtain ⟨t257, A570, H⟩ := H
          replace H : (if t257 = true then ((laws_markG_B.f t239 t240 t241 1).bind fun t258 => (if t258 < 0 then (laws_FnExactConstantOf.j1 kj10 t237 true a0_0 a0_1 l0_2 t233 t234 t245 t246) else ((laws_eqCyclo.f kj10 t245 t246 t233 t234).bind fun t259 => (if t259 = true then (laws_FnExactConstantOf.j1 kj10 t237 (t249 != t237) a0_0 a0_1 l0_2 t233 t234 t245 t246) else (laws_FnExactConstantOf.j1 kj10 t237 true a0_0 a0_1 l0_2 t233 t234 t245 t246))))) else (some false)) = some true := H
          have A57 := Aside0.mk A570
          clear A570
          by_cases c58 : t257 = true
          · subst c58
            have H1 : ((laws_markG_B.f t239 t240 t241 1).bind fun t258 => (if t258 < 0 then (laws_FnExactConstantOf.j1 kj10 t237 true a0_0 a0_1 l0_2 t233 t234 t245 t246) else ((laws_eqCyclo.f kj10 t245 t246 t233 t234).bind fun t259 => (if t259 = true then (laws_FnExactConstantOf.j1 kj10 t237 (t249 != t237) a0_0 a0_1 l0_2 t233 t234 t245 t246) else (laws_FnExactConstantOf.j1 kj10 t237 true a0_0 a0_1 l0_2 t233 t234 t245 t246))))) = some true := by rw [if_pos rfl] at H; exact H
            clear H
            have H := H1
            clear H1
            replace H := Option.bind_eq_some_iff.mp H
            obtain ⟨t258, A590, H⟩ := H
            replace H : (if t258 < 0 then (laws_FnExactConstantOf.j1 kj10 t237 true a0_0 a0_1 l0_2 t233 t234 t245 t246) else ((laws_eqCyclo.f kj10 t245 t246 t233 t234).bind fun t259 => (if t259 = true then (laws_FnExactConstantOf.j1 kj10 t237 (t249 != t237) a0_0 a0_1 l0_2 t233 t234 t245 t246) else (laws_FnExactConstantOf.j1 kj10 t237 true a0_0 a0_1 l0_2 t233 t234 t245 t246)))) = some true := H
            have A59 := Aside0.mk A590
            clear A590
            have HC60 := Aside0.mk H
            clear H
            try go_wp2
            have n0_ := Aside0.mk (Kd.R_drew HO_239001.out)
            have n1_ := Aside0.mk (Kd.S_drew HO_245002.out)
            have n2_ := Aside0.mk (Kd.R_drew HO_251001.out)
            have n3_ := Aside0.mk (blk_drew BK226.out)
            have n4_ := Aside0.mk (blk_drew BK238.out)
            have n5_ := Aside0.mk (blk_drew BK244.out)
            have n6_ := Aside0.mk (blk_drew BK250.out)
            have n7_ := Aside0.mk (below_drew1 HB.out)
            clear HO_239001
            clear HO_245002
            clear HO_251001
            clear BK226
            clear BK238
            clear BK244
            clear BK250
            clear HB
            have HO_239001 := n0_
            have HO_245002 := n1_
            have HO_251001 := n2_
            have BK226 := n3_
            have BK238 := n4_
            have BK244 := n5_
            have BK250 := n6_
            have HB := n7_
            clear n0_ n1_ n2_ n3_ n4_ n5_ n6_ n7_
            refine start_ (n := 5) (S := fun w' => w'.cell? ⟨gb244, 0, none⟩ = some (.int .i64 t239) ∧ w'.cell? ⟨gb244, 1, none⟩ = some (.int .i64 t240) ∧ w'.cell? ⟨gb244, 2, none⟩ = some (.slice Ao29 t241.length co29) ∧ w'.cell? ⟨gb226, 0, none⟩ = some (.int .i64 a0_0) ∧ w'.cell? ⟨gb226, 1, none⟩ = some (.int .i64 a0_1) ∧ w'.cell? ⟨gb226, 2, none⟩ = some (.slice A0_2 l0_2.length c0_2)) (ds := []) #[false, false, false, false, false] (by kernel_rfl) rfl rfl ⟨(blk_cell BK244.out 0).trans rfl, (blk_cell BK244.out 1).trans rfl, (blk_cell BK244.out 2).trans rfl, (blk_cell BK226.out 0).trans rfl, (blk_cell BK226.out 1).trans rfl, (blk_cell BK226.out 2).trans rfl⟩ (fun hHeld => ?_)
            generalize wc.drew = w61 at HO_239001 HO_245002 HO_251001 BK226 BK238 BK244 BK250 HB hHeld ⊢
            refine take_ (i := 0) (N := some 41) (v := ?_) (a' := ?_) #[true, false, false, false, false] rfl rfl (by kernel_rfl) (fun _ _ _ h => h) (Or.inl ⟨by rfl, ?_⟩) hHeld ?_ ?_
            rotate_left
            · rintro w' ⟨s0, s1, s2, s3, s4, s5⟩
              go_simp
              with_reducible rfl
            rotate_left
            · simp only [Act.put, List.setIfInBounds_toArray, List.set_cons_zero, List.set_cons_succ, i64_w, i32_w]
              rfl
            refine take_ (i := 1) (N := some 42) (v := ?_) (a' := ?_) #[true, true, false, false, false] rfl rfl (by kernel_rfl) (fun _ _ _ h => h) (Or.inl ⟨by rfl, ?_⟩) hHeld ?_ ?_
            rotate_left
            · rintro w' ⟨s0, s1, s2, s3, s4, s5⟩
              go_simp
              with_reducible rfl
            rotate_left
            · simp only [Act.put, List.setIfInBounds_toArray, List.set_cons_zero, List.set_cons_succ, i64_w, i32_w]
              rfl
            refine one_ (i := 2) (N := some 43) #[true, true, true, false, false] rfl rfl (by kernel_rfl) (by decide) (fun K hK => ?_)
            refine goes_ Try.func25 (by kernel_rfl) rfl #[.agg #[.int .i64 a0_0, .int .i64 a0_1, .slice A0_2 l0_2.length c0_2]] (by rfl) rfl rfl qB31 ?_
            with_reducible refine (laws_toGauss.calls kj10 a0_0 a0_1 _ _ l0_2 t252 t253 t254 _ ?side1 ?side2 A56.out).mono ?_
            (case side1 => repeat (first | exact (Kd.C_below HR0_2.out HB.out) | (with_reducible refine Kd.C_alloc ?_ _) | (with_reducible refine Kd.C_drewN ?_ _) | (with_reducible refine Kd.C_drew ?_)))
            (case side2 => exact HC0_2.out)
            rintro e w62 ⟨v255, rfl, ho0, hb⟩
            refine ⟨_, rfl, ?_⟩
            have n0_ := Aside0.mk (Kd.R_below qB54 hb)
            have n1_ := Aside0.mk (Kd.S_elder' qB55 (Kd.S_base ho0) hb)
            have n2_ := Aside0.mk (Kd.R_below qB56 hb)
            have n3_ := Aside0.mk (Kd.S_lower (Kd.S_new' (Kd.S_new' (Kd.S_new' ho0 (Kd.R_lt qB54)) (Kd.S_lt qB55)) (Kd.R_lt qB56)) (below_size qB11))
            have n4_ := Aside0.mk (blk_below (g := gb226) (o := .cells #[.int .i64 a0_0, .int .i64 a0_1, .slice A0_2 l0_2.length c0_2] 44 (0, 0)) qB49 hb)
            have n5_ := Aside0.mk (blk_below (g := gb238) (o := .cells #[.int .i64 t233, .slice Ao22 t234.length co22] 31 (0, 0)) qB50 hb)
            have n6_ := Aside0.mk (blk_below (g := gb244) (o := .cells #[.int .i64 t239, .int .i64 t240, .slice Ao29 t241.length co29] 28 (0, 0)) qB51 hb)
            have n7_ := Aside0.mk (blk_below (g := gb250) (o := .cells #[.int .i64 t245, .slice Ao36 t246.length co36] 31 (0, 0)) qB52 hb)
            have n8_ := Aside0.mk (below_step qB11 hb)
            clear HO_239001
            clear HO_245002
            clear HO_251001
            clear BK226
            clear BK238
            clear BK244
            clear BK250
            clear HB
            have HO_239001 := n0_
            have HO_245002 := n1_
            have HO_251001 := n2_
            have HO256 := n3_
            have BK226 := n4_
            have BK238 := n5_
            have BK244 := n6_
            have BK250 := n7_
            have HB := n8_
            clear n0_ n1_ n2_ n3_ n4_ n5_ n6_ n7_ n8_
            (try clear hb)
            (try clear hb2)
            (try clear hk)
            (try clear hi)
            (try clear ho0)
            obtain ⟨Ao63, co63, eo63⟩ := Kd.S_slice HO256.out
            (first | subst eo63 | (injection eo63 with f1_ f2_ f3_; have f4_ := f1_.symm; have f5_ := f3_.symm; clear f1_ f2_ f3_; subst f4_; subst f5_))
            refine hK.out _ _ ⟨(blk_cell BK244.out 0).trans rfl, (blk_cell BK244.out 1).trans rfl, (blk_cell BK244.out 2).trans rfl, (blk_cell BK226.out 0).trans rfl, (blk_cell BK226.out 1).trans rfl, (blk_cell BK226.out 2).trans rfl⟩ (fun hHeld => ?_)
            clear hK K
            refine norm_ (a' := ?_) ?_ ?_
            rotate_left
            · show Act.put _ (some 43) _ = _
              simp only [Act.put, List.setIfInBounds_toArray, List.set_cons_zero, List.set_cons_succ, i64_w, i32_w]
              rfl
            refine one_ (i := 3) (N := some 44) #[true, true, true, true, false] rfl rfl (by kernel_rfl) (by decide) (fun K hK => ?_)
            refine goes_ Try.func15 (by kernel_rfl) rfl #[.agg #[.int .i64 t239, .int .i64 t240, .slice Ao29 t241.length co29], .agg #[.int .i64 t252, .int .i64 t253, .slice Ao63 t254.length co63]] (by rfl) rfl rfl qB31 ?_
            with_reducible refine (laws_eqGauss.calls kj10 t239 t240 _ _ t241 t252 t253 _ _ t254 true _ ?side1 ?side2 ?side3 ?side4 A57.out).mono ?_
            (case side1 => repeat (first | exact (Kd.S_reads' HO_245002.out).2.2 | (with_reducible refine Kd.C_alloc ?_ _) | (with_reducible refine Kd.C_drewN ?_ _) | (with_reducible refine Kd.C_drew ?_)))
            (case side2 => exact (Kd.S_reads' HO_245002.out).2.1)
            (case side3 => repeat (first | exact (Kd.S_reads' HO256.out).2.2 | (with_reducible refine Kd.C_alloc ?_ _) | (with_reducible refine Kd.C_drewN ?_ _) | (with_reducible refine Kd.C_drew ?_)))
            (case side4 => exact (Kd.S_reads' HO256.out).2.1)
            rintro e w64 ⟨rfl, hb⟩
            refine ⟨_, rfl, ?_⟩
            have n0_ := Aside0.mk (Kd.R_below qB54 hb)
            have n1_ := Aside0.mk (Kd.S_below qB55 hb)
            have n2_ := Aside0.mk (Kd.R_below qB56 hb)
            have n3_ := Aside0.mk (Kd.S_below qB61 hb)
            have n4_ := Aside0.mk (blk_below (g := gb226) (o := .cells #[.int .i64 a0_0, .int .i64 a0_1, .slice A0_2 l0_2.length c0_2] 44 (0, 0)) qB49 hb)
            have n5_ := Aside0.mk (blk_below (g := gb238) (o := .cells #[.int .i64 t233, .slice Ao22 t234.length co22] 31 (0, 0)) qB50 hb)
            have n6_ := Aside0.mk (blk_below (g := gb244) (o := .cells #[.int .i64 t239, .int .i64 t240, .slice Ao29 t241.length co29] 28 (0, 0)) qB51 hb)
            have n7_ := Aside0.mk (blk_below (g := gb250) (o := .cells #[.int .i64 t245, .slice Ao36 t246.length co36] 31 (0, 0)) qB52 hb)
            have n8_ := Aside0.mk (below_step qB11 hb)
            clear HO_239001
            clear HO_245002
            clear HO_251001
            clear HO256
            clear BK226
            clear BK238
            clear BK244
            clear BK250
            clear HB
            have HO_239001 := n0_
            have HO_245002 := n1_
            have HO_251001 := n2_
            have HO256 := n3_
            have BK226 := n4_
            have BK238 := n5_
            have BK244 := n6_
            have BK250 := n7_
            have HB := n8_
            clear n0_ n1_ n2_ n3_ n4_ n5_ n6_ n7_ n8_
            (try clear hb)
            (try clear hb2)
            (try clear hk)
            (try clear hi)
            refine hK.out _ _ ⟨(blk_cell BK244.out 0).trans rfl, (blk_cell BK244.out 1).trans rfl, (blk_cell BK244.out 2).trans rfl, (blk_cell BK226.out 0).trans rfl, (blk_cell BK226.out 1).trans rfl, (blk_cell BK226.out 2).trans rfl⟩ (fun hHeld => ?_)
            clear hK K
            refine norm_ (a' := ?_) ?_ ?_
            rotate_left
            · show Act.put _ (some 44) _ = _
              simp only [Act.put, List.setIfInBounds_toArray, List.set_cons_zero, List.set_cons_succ, i64_w, i32_w]
              rfl
            refine pure_ (i := 4) (N := some 45) (v := ?_) (a' := ?_) #[true, true, true, true, true] rfl rfl (by kernel_rfl) (fun _ _ _ h => h) (Or.inl ⟨by rfl, ?_⟩) ?_ ?_
            rotate_left
            · intro w'
              go_simp
              with_reducible rfl
            rotate_left
            · simp only [Act.put, List.setIfInBounds_toArray, List.set_cons_zero, List.set_cons_succ, i64_w, i32_w]
              rfl
            refine done_ (by kernel_rfl) ?_
            have hnb65 := NB244_226.out
            have hnc65 := NB226_244.out
            have hnb66 := NB244_238.out
            have hnc66 := NB238_244.out
            have hnb67 := NB244_250.out
            have hnc67 := NB250_244.out
            have hcz68_0 : w64.cell? ⟨gb244, 0, none⟩ = some (.int .i64 t239) := (blk_cell BK244.out 0).trans rfl
            have hcz68_1 : w64.cell? ⟨gb244, 1, none⟩ = some (.int .i64 t240) := (blk_cell BK244.out 1).trans rfl
            have hcz68_2 : w64.cell? ⟨gb244, 2, none⟩ = some (.slice Ao29 t241.length co29) := (blk_cell BK244.out 2).trans rfl
            have hfz68_0 := blk_frozen BK244.out 0
            have hfz68_1 := blk_frozen BK244.out 1
            have hfz68_2 := blk_frozen BK244.out 2
            go_upto_region 14 with (first | ((with_reducible refine gate_callee (f := 18) rfl ?_); refine goesL_ (some 48) rfl rfl Try.func18 (by kernel_rfl) rfl #[.agg #[.int .i64 t239, .int .i64 t240, .slice Ao29 t241.length co29], .int .i64 1] rfl qB31 ?_; refine (nMarkG_both A59.out qB11 qB55).mono ?_; rintro e w69 ⟨rfl, hs_, hb2_, hk_⟩; refine ⟨_, rfl, ?_⟩; have n0_ := Aside0.mk (nMarkG_R hk_ qB54 qB1); have n1_ := Aside0.mk hs_; have n2_ := Aside0.mk (nMarkG_R hk_ qB56 qB1); have n3_ := Aside0.mk (Kd.S_nil (Kd.slice 2 (Kd.int .i64)) 22 w69 w.heap.size (fun _ => True)); have n4_ := Aside0.mk (nMarkG_B (g := gb226) (cs := #[.int .i64 a0_0, .int .i64 a0_1, .slice A0_2 l0_2.length c0_2]) (t := 44) hk_ qB49 (by decide)); have n5_ := Aside0.mk (nMarkG_B (g := gb238) (cs := #[.int .i64 t233, .slice Ao22 t234.length co22]) (t := 31) hk_ qB50 (by decide)); have n6_ := Aside0.mk (nMarkG_B (g := gb244) (cs := #[.int .i64 t239, .int .i64 t240, .slice Ao29 t241.length co29]) (t := 28) hk_ qB51 (by decide)); have n7_ := Aside0.mk (nMarkG_B (g := gb250) (cs := #[.int .i64 t245, .slice Ao36 t246.length co36]) (t := 31) hk_ qB52 (by decide)); have n8_ := Aside0.mk hb2_; clear HO_239001; clear HO_245002; clear HO_251001; clear HO256; clear BK226; clear BK238; clear BK244; clear BK250; clear HB; have HO_239001 := n0_; have HO_245002 := n1_; have HO_251001 := n2_; have HO256 := n3_; have BK226 := n4_; have BK238 := n5_; have BK244 := n6_; have BK250 := n7_; have HB := n8_; clear n0_ n1_ n2_ n3_ n4_ n5_ n6_ n7_ n8_; (try clear hs_ hb2_ hk_); (try clear hb2); (try clear hk); (try clear hi)))
            (try simp only [Act.put, List.setIfInBounds_toArray, List.set_cons_zero, List.set_cons_succ])
            go_cut [61] (fun v61 wc => ∃ (kq : Nat) (x61_59 : Bool), v61 = .bool x61_59 ∧ Aside0 (laws_FnExactConstantOf.j1 kq t237 x61_59 a0_0 a0_1 l0_2 t233 t234 t245 t246 = some true) ∧ Aside0 (kq ≤ kj10) ∧ Aside0 (Kd.R (Kd.int .i64) 2 wc w.heap.size (fun k_ => some k_ ≠ ((.slice Ao36 t246.length co36) : Value).ownBlock) (.slice Ao22 t234.length co22) t234) ∧ Aside0 (Kd.S (Kd.slice 2 (Kd.int .i64)) 22 wc w.heap.size (fun k_ => some k_ ≠ ((.slice Ao22 t234.length co22) : Value).ownBlock ∧ some k_ ≠ ((.slice Ao36 t246.length co36) : Value).ownBlock) (.slice Ao29 t241.length co29) (nMarkS t241 1).2) ∧ Aside0 (Kd.R (Kd.int .i64) 2 wc w.heap.size (fun k_ => some k_ ≠ ((.slice Ao22 t234.length co22) : Value).ownBlock) (.slice Ao36 t246.length co36) t246) ∧ Aside0 (wc.heap[gb226]? = some (.cells #[.int .i64 a0_0, .int .i64 a0_1, (.slice A0_2 l0_2.length c0_2)] 44 (0, 0))) ∧ Aside0 (wc.heap[gb238]? = some (.cells #[.int .i64 t233, (.slice Ao22 t234.length co22)] 31 (0, 0))) ∧ Aside0 (wc.heap[gb244]? = some (.cells #[.int .i64 t239, .int .i64 t240, (.slice Ao29 t241.length co29)] 28 (0, 0))) ∧ Aside0 (wc.heap[gb250]? = some (.cells #[.int .i64 t245, (.slice Ao36 t246.length co36)] 31 (0, 0))) ∧ Aside0 (Below w.heap.size w wc))
            case first =>
              have H := HC60.out
              clear HC60
              by_cases c70 : t258 < 0
              · rw [if_pos c70] at H
                exact (laws_FnExactConstantOf.j1_no _ _ _ _ _ _ _ _ _ H).elim
              · rw [if_neg c70] at H
                have c70b0 : decide (t258 < 0) = false := decide_eq_false c70
                clear c70
                (first | rw [c70b0] | (simp only [i64_w, i32_w]; rw [c70b0]) | skip)
                replace H := Option.bind_eq_some_iff.mp H
                obtain ⟨t259, A710, H⟩ := H
                replace H : (if t259 = true then (laws_FnExactConstantOf.j1 kj10 t237 (t249 != t237) a0_0 a0_1 l0_2 t233 t234 t245 t246) else (laws_FnExactConstantOf.j1 kj10 t237 true a0_0 a0_1 l0_2 t233 t234 t245 t246)) = some true := H
                have A71 := Aside0.mk A710
                clear A710
                by_cases c72 : t259 = true
                · subst c72
                  have H1 : (laws_FnExactConstantOf.j1 kj10 t237 (t249 != t237) a0_0 a0_1 l0_2 t233 t234 t245 t246) = some true := by rw [if_pos rfl] at H; exact H
                  clear H
                  have H := H1
                  clear H1
                  have H' := Aside0.mk H
                  clear H
                  have hnb73 := NB250_226.out
                  have hnc73 := NB226_250.out
                  have hnb74 := NB250_238.out
                  have hnc74 := NB238_250.out
                  have hnb75 := NB250_244.out
                  have hnc75 := NB244_250.out
                  have hcz76_0 : w69.cell? ⟨gb250, 0, none⟩ = some (.int .i64 t245) := (blk_cell BK250.out 0).trans rfl
                  have hcz76_1 : w69.cell? ⟨gb250, 1, none⟩ = some (.slice Ao36 t246.length co36) := (blk_cell BK250.out 1).trans rfl
                  have hfz76_0 := blk_frozen BK250.out 0
                  have hfz76_1 := blk_frozen BK250.out 1
                  have hnb77 := NB238_226.out
                  have hnc77 := NB226_238.out
                  have hnb78 := NB238_244.out
                  have hnc78 := NB244_238.out
                  have hcz79_0 : w69.cell? ⟨gb238, 0, none⟩ = some (.int .i64 t233) := (blk_cell BK238.out 0).trans rfl
                  have hcz79_1 : w69.cell? ⟨gb238, 1, none⟩ = some (.slice Ao22 t234.length co22) := (blk_cell BK238.out 1).trans rfl
                  have hfz79_0 := blk_frozen BK238.out 0
                  have hfz79_1 := blk_frozen BK238.out 1
                  go_wp2_with (first | (go_at_call 16; (with_reducible refine (laws_eqCyclo.calls kj10 t245 _ _ t246 t233 _ _ t234 true _ ?side1 ?side2 ?side3 ?side4 A71.out).mono ?_); (case side1 => repeat (first | exact (Kd.R_reads' HO_251001.out).2.2 | (with_reducible refine Kd.C_alloc ?_ _) | (with_reducible refine Kd.C_drewN ?_ _) | (with_reducible refine Kd.C_drew ?_))); (case side2 => exact (Kd.R_reads' HO_251001.out).2.1); (case side3 => repeat (first | exact (Kd.R_reads' HO_239001.out).2.2 | (with_reducible refine Kd.C_alloc ?_ _) | (with_reducible refine Kd.C_drewN ?_ _) | (with_reducible refine Kd.C_drew ?_))); (case side4 => exact (Kd.R_reads' HO_239001.out).2.1); rintro e w80 ⟨rfl, hb⟩; have n0_ := Aside0.mk (Kd.R_below qB54 hb); have n1_ := Aside0.mk (Kd.S_below qB55 hb); have n2_ := Aside0.mk (Kd.R_below qB56 hb); have n3_ := Aside0.mk (Kd.S_below qB61 hb); have n4_ := Aside0.mk (blk_below (g := gb226) (o := .cells #[.int .i64 a0_0, .int .i64 a0_1, .slice A0_2 l0_2.length c0_2] 44 (0, 0)) qB49 hb); have n5_ := Aside0.mk (blk_below (g := gb238) (o := .cells #[.int .i64 t233, .slice Ao22 t234.length co22] 31 (0, 0)) qB50 hb); have n6_ := Aside0.mk (blk_below (g := gb244) (o := .cells #[.int .i64 t239, .int .i64 t240, .slice Ao29 t241.length co29] 28 (0, 0)) qB51 hb); have n7_ := Aside0.mk (blk_below (g := gb250) (o := .cells #[.int .i64 t245, .slice Ao36 t246.length co36] 31 (0, 0)) qB52 hb); have n8_ := Aside0.mk (below_step qB11 hb); clear HO_239001; clear HO_245002; clear HO_251001; clear HO256; clear BK226; clear BK238; clear BK244; clear BK250; clear HB; have HO_239001 := n0_; have HO_245002 := n1_; have HO_251001 := n2_; have HO256 := n3_; have BK226 := n4_; have BK238 := n5_; have BK244 := n6_; have BK250 := n7_; have HB := n8_; clear n0_ n1_ n2_ n3_ n4_ n5_ n6_ n7_ n8_; (try clear hb); (try clear hb2); (try clear hk); (try clear hi)))
                  go_meet
                  case rel => exact ⟨_, ((t249 != t237)), qB66, H', ⟨by have := HJ10.out; first | omega | exact Nat.le_refl _⟩, ⟨by (with_reducible repeat (first | apply Kd.R_alloc | apply Kd.R_drewN | apply Kd.R_drew)); exact HO_239001.out⟩, ⟨by (with_reducible repeat (first | apply Kd.S_alloc | apply Kd.S_drewN | apply Kd.S_drew)); exact Kd.S_mono HO_245002.out (fun _ hk => ⟨hk.1.1, hk.1.2⟩)⟩, ⟨by (with_reducible repeat (first | apply Kd.R_alloc | apply Kd.R_drewN | apply Kd.R_drew)); exact HO_251001.out⟩, ⟨by (with_reducible repeat (first | refine blk_drewN ?_ _ | refine blk_drew ?_ | refine blk_alloc ?_ _)); exact BK226.out⟩, ⟨by (with_reducible repeat (first | refine blk_drewN ?_ _ | refine blk_drew ?_ | refine blk_alloc ?_ _)); exact BK238.out⟩, ⟨by (with_reducible repeat (first | refine blk_drewN ?_ _ | refine blk_drew ?_ | refine blk_alloc ?_ _)); exact BK244.out⟩, ⟨by (with_reducible repeat (first | refine blk_drewN ?_ _ | refine blk_drew ?_ | refine blk_alloc ?_ _)); exact BK250.out⟩, ⟨by repeat (first | (with_reducible first | exact HB.out | apply below_alloc | apply pw_below_drewN | apply below_drew1 | refine below_set ?_ GE226.out | refine below_set ?_ GE238.out | refine below_set ?_ GE244.out | refine below_set ?_ GE250.out) | exact HB.out)⟩⟩
                · replace c72 := Bool.eq_false_iff.mpr c72
                  subst c72
                  have H1 : (laws_FnExactConstantOf.j1 kj10 t237 true a0_0 a0_1 l0_2 t233 t234 t245 t246) = some true := by rw [if_neg (show ¬ (false = true) by decide)] at H; exact H
                  exact (laws_FnExactConstantOf.j1_no _ _ _ _ _ _ _ _ _ H1).elim
            case rest =>
              clear HC60
              try clear c1
              try clear c2
              try clear p2
              try clear c3
              try clear c3b0
              try clear c4
              try clear c5
              try clear c6
              try clear c7
              try clear c8
              try clear c9
              try clear c14
              try clear c15
              try clear c16
              try clear c20
              try clear c23
              try clear c25
              try clear c26
              try clear c27
              try clear c32
              try clear c33
              try clear c34
              try clear c38
              try clear c39
              try clear c40
              try clear c41
              try clear c43
              try clear c44
              try clear c47
              try clear c48
              try clear c49
              try clear c51
              try clear c52
              try clear c55
              try clear c58
              try clear c65
              try clear c66
              try clear c67
              try clear c70
              try clear c70b0
              try clear c72
              try clear c73
              try clear c74
              try clear c75
              try clear c77
              try clear c78
              try clear c81
              try clear c82
              try clear c83
              try clear c85
              try clear c86
              try clear hcz13_0
              try clear hcz13_1
              try clear hcz13_2
              try clear hcz15_0
              try clear hcz15_1
              try clear hcz15_2
              try clear hcz21_0
              try clear hcz21_1
              try clear hcz23_0
              try clear hcz23_1
              try clear hcz23_2
              try clear hcz28_0
              try clear hcz28_1
              try clear hcz28_2
              try clear hcz35_0
              try clear hcz35_1
              try clear hcz42_0
              try clear hcz42_1
              try clear hcz45_0
              try clear hcz45_1
              try clear hcz50_0
              try clear hcz50_1
              try clear hcz53_0
              try clear hcz53_1
              try clear hcz5_0
              try clear hcz5_1
              try clear hcz5_2
              try clear hcz68_0
              try clear hcz68_1
              try clear hcz68_2
              try clear hcz76_0
              try clear hcz76_1
              try clear hcz79_0
              try clear hcz79_1
              try clear hcz84_0
              try clear hcz84_1
              try clear hcz87_0
              try clear hcz87_1
              try clear hfz13_0
              try clear hfz13_1
              try clear hfz13_2
              try clear hfz15_0
              try clear hfz15_1
              try clear hfz15_2
              try clear hfz21_0
              try clear hfz21_1
              try clear hfz23_0
              try clear hfz23_1
              try clear hfz23_2
              try clear hfz28_0
              try clear hfz28_1
              try clear hfz28_2
              try clear hfz35_0
              try clear hfz35_1
              try clear hfz42_0
              try clear hfz42_1
              try clear hfz45_0
              try clear hfz45_1
              try clear hfz50_0
              try clear hfz50_1
              try clear hfz53_0
              try clear hfz53_1
              try clear hfz5_0
              try clear hfz5_1
              try clear hfz5_2
              try clear hfz68_0
              try clear hfz68_1
              try clear hfz68_2
              try clear hfz76_0
              try clear hfz76_1
              try clear hfz79_0
              try clear hfz79_1
              try clear hfz84_0
              try clear hfz84_1
              try clear hfz87_0
              try clear hfz87_1
              try clear p2
              obtain ⟨kq, x61_59, rfl, HA, HJ59, HO_239001, HO_245002, HO_251001, BK226, BK238, BK244, BK250, HB⟩ := hcut
              cases kq with
              | zero => exact absurd HA.out (by simp [laws_FnExactConstantOf.j1])
              | succ kj59 =>
                have H := HA.out
                clear HA
                simp only [laws_FnExactConstantOf.j1] at H
                by_cases c89 : x61_59 = true
                · subst c89
                  have H1 : (some false) = some true := by rw [if_pos rfl] at H; exact H
                  cases H1
                · replace c89 := Bool.eq_false_iff.mpr c89
                  subst c89
                  have H1 : ((laws_markCyclo.f kj59 t245 t246 1).bind fun bt260 => ((laws_heldCyclo.f kj59 t245 bt260.2 1).bind fun t262 => (if t262 < 0 then (some false) else (if t262 = bt260.1 then ((laws_toGauss.f kj59 a0_0 a0_1 l0_2).bind fun bt263 => ((impl_ConstantOf.f kj59 bt263.1 bt263.2.1 bt263.2.2).bind fun bt268 => ((laws_eqCyclo.f kj59 bt268.1 bt268.2.1 t233 t234).bind fun t274 => (if t274 = true then (laws_FnExactConstantOf.j2 kj59 bt260.1 (bt268.2.2 != t237) t245 bt260.2) else (laws_FnExactConstantOf.j2 kj59 bt260.1 true t245 bt260.2))))) else (some false))))) = some true := by rw [if_neg (show ¬ (false = true) by decide)] at H; exact H
                  clear H
                  have H := H1
                  clear H1
                  replace H := Option.bind_eq_some_iff.mp H
                  obtain ⟨⟨t260, t261⟩, A900, H⟩ := H
                  replace H : ((laws_heldCyclo.f kj59 t245 t261 1).bind fun t262 => (if t262 < 0 then (some false) else (if t262 = t260 then ((laws_toGauss.f kj59 a0_0 a0_1 l0_2).bind fun bt263 => ((impl_ConstantOf.f kj59 bt263.1 bt263.2.1 bt263.2.2).bind fun bt268 => ((laws_eqCyclo.f kj59 bt268.1 bt268.2.1 t233 t234).bind fun t274 => (if t274 = true then (laws_FnExactConstantOf.j2 kj59 t260 (bt268.2.2 != t237) t245 t261) else (laws_FnExactConstantOf.j2 kj59 t260 true t245 t261))))) else (some false)))) = some true := H
                  have A90 := Aside0.mk A900
                  clear A900
                  replace H := Option.bind_eq_some_iff.mp H
                  obtain ⟨t262, A910, H⟩ := H
                  replace H : (if t262 < 0 then (some false) else (if t262 = t260 then ((laws_toGauss.f kj59 a0_0 a0_1 l0_2).bind fun bt263 => ((impl_ConstantOf.f kj59 bt263.1 bt263.2.1 bt263.2.2).bind fun bt268 => ((laws_eqCyclo.f kj59 bt268.1 bt268.2.1 t233 t234).bind fun t274 => (if t274 = true then (laws_FnExactConstantOf.j2 kj59 t260 (bt268.2.2 != t237) t245 t261) else (laws_FnExactConstantOf.j2 kj59 t260 true t245 t261))))) else (some false))) = some true := H
                  have A91 := Aside0.mk A910
                  clear A910
                  by_cases c92 : t262 < 0
                  · rw [if_pos c92] at H
                    cases H
                  · rw [if_neg c92] at H
                    have c92b0 : decide (t262 < 0) = false := decide_eq_false c92
                    clear c92
                    by_cases c100 : t262 = t260
                    · rw [if_pos c100] at H
                      have c100b0 : (t262 == t260) = true := beq_iff_eq.mpr c100
                      have c100b1 : (t262 != t260) = false := bne_eq_false_iff_eq.mpr c100
                      clear c100
                      replace H := Option.bind_eq_some_iff.mp H
                      obtain ⟨⟨t263, t264, t265⟩, A1010, H⟩ := H
                      replace H : ((impl_ConstantOf.f kj59 t263 t264 t265).bind fun bt268 => ((laws_eqCyclo.f kj59 bt268.1 bt268.2.1 t233 t234).bind fun t274 => (if t274 = true then (laws_FnExactConstantOf.j2 kj59 t260 (bt268.2.2 != t237) t245 t261) else (laws_FnExactConstantOf.j2 kj59 t260 true t245 t261)))) = some true := H
                      have A101 := Aside0.mk A1010
                      clear A1010
                      replace H := Option.bind_eq_some_iff.mp H
                      obtain ⟨⟨t268, t269, t272⟩, A1020, H⟩ := H
                      replace H : ((laws_eqCyclo.f kj59 t268 t269 t233 t234).bind fun t274 => (if t274 = true then (laws_FnExactConstantOf.j2 kj59 t260 (t272 != t237) t245 t261) else (laws_FnExactConstantOf.j2 kj59 t260 true t245 t261))) = some true := H
                      have A102 := Aside0.mk A1020
                      clear A1020
                      have HC103 := Aside0.mk H
                      clear H
                      have hnb104 := NB250_226.out
                      have hnc104 := NB226_250.out
                      have hnb105 := NB250_238.out
                      have hnc105 := NB238_250.out
                      have hnb106 := NB250_244.out
                      have hnc106 := NB244_250.out
                      have hcz107_0 : wc.cell? ⟨gb250, 0, none⟩ = some (.int .i64 t245) := (blk_cell BK250.out 0).trans rfl
                      have hcz107_1 : wc.cell? ⟨gb250, 1, none⟩ = some (.slice Ao36 t246.length co36) := (blk_cell BK250.out 1).trans rfl
                      have hfz107_0 := blk_frozen BK250.out 0
                      have hfz107_1 := blk_frozen BK250.out 1
                      go_upto_region 25 with (first | ((with_reducible refine gate_callee (f := 17) rfl ?_); refine goesL_ (some 64) rfl rfl Try.func17 (by kernel_rfl) rfl #[.agg #[.int .i64 t245, .slice Ao36 t246.length co36], .int .i64 1] rfl qB31 ?_; (with_reducible refine (laws_markCyclo.calls kj59 t245 (fun k_ => some k_ = (.slice Ao36 t246.length co36 : Value).ownBlock) (.slice Ao36 t246.length co36) t246 1 t260 t261 w _ ?side1 ?side2 A90.out).mono ?_); (case side1 => repeat (first | (with_reducible first | exact HB.out | apply below_alloc | apply pw_below_drewN | apply below_drew1 | refine below_set ?_ GE226.out | refine below_set ?_ GE238.out | refine below_set ?_ GE244.out | refine below_set ?_ GE250.out) | exact HB.out)); (case side2 => exact Kd.R_tight rfl HO_251001.out); rintro e w108 ⟨rfl, hy0, hb, hkp⟩; refine ⟨_, rfl, ?_⟩; have n0_ := Aside0.mk (Kd.R_mono (ok' := fun k_ => some k_ ≠ (.slice Ao36 t246.length co36 : Value).ownBlock) (Kd.R_keptB (HO_239001.out) hkp (fun k_ hk_ hs_ => (hk_) hs_)) (fun k_ hk_ => hk_.1)); have n1_ := Aside0.mk (Kd.S_mono (ok' := fun k_ => some k_ ≠ (.slice Ao22 t234.length co22 : Value).ownBlock ∧ some k_ ≠ (.slice Ao36 t246.length co36 : Value).ownBlock) (Kd.S_keptB (HO_245002.out) hkp (fun k_ hk_ hs_ => (hk_.2) hs_)) (fun k_ hk_ => ⟨hk_.1.1, hk_.1.2⟩)); have n2_ := Aside0.mk (Kd.R_reok rfl hy0 (fun k_ e_ => HO_251001.out.1 k_ e_)); have n3_ := Aside0.mk (blk_kept qB49 hkp (fun hs_ => (fun e_ => (Kd.R_ne HO_251001.out BK226.out (by decide)) e_) hs_)); have n4_ := Aside0.mk (blk_kept qB50 hkp (fun hs_ => (fun e_ => (Kd.R_ne HO_251001.out BK238.out (by decide)) e_) hs_)); have n5_ := Aside0.mk (blk_kept qB51 hkp (fun hs_ => (fun e_ => (Kd.R_ne HO_251001.out BK244.out (by decide)) e_) hs_)); have n6_ := Aside0.mk (blk_kept qB52 hkp (fun hs_ => (fun e_ => (Kd.R_ne HO_251001.out BK250.out (by decide)) e_) hs_)); have n7_ := Aside0.mk (hb); clear HO_239001; clear HO_245002; clear HO_251001; clear BK226; clear BK238; clear BK244; clear BK250; clear HB; have HO_239001 := n0_; have HO_245002 := n1_; have HO_251001 := n2_; have BK226 := n3_; have BK238 := n4_; have BK244 := n5_; have BK250 := n6_; have HB := n7_; clear n0_ n1_ n2_ n3_ n4_ n5_ n6_ n7_; (try clear hb); (try clear hkp); (try clear hy0); have hcz109_0 : w108.cell? ⟨gb250, 0, none⟩ = some (.int .i64 t245) := (blk_cell BK250.out 0).trans rfl; have hcz109_1 : w108.cell? ⟨gb250, 1, none⟩ = some (.slice Ao36 t246.length co36) := (blk_cell BK250.out 1).trans rfl; have hfz109_0 := blk_frozen BK250.out 0; have hfz109_1 := blk_frozen BK250.out 1) | ((with_reducible refine gate_callee (f := 35) rfl ?_); refine goesL_ (some 67) rfl rfl Try.func35 (by kernel_rfl) rfl #[.agg #[.int .i64 t245, .slice Ao36 t261.length co36], .int .i64 1] rfl (by (try simp only [List.map_toArray, List.map_cons, List.map_nil]); first | done | (rw [show t261.length = t246.length from (Kd.R_reads' HO_251001.out).1.symm] <;> rfl) | rfl | (simp only [List.length_drop, List.length_take]; rfl)) ?_; (with_reducible refine (laws_heldCyclo.calls kj59 t245 _ _ t261 1 t262 _ ?side1 ?side2 A91.out).mono ?_); (case side1 => repeat (first | exact (Kd.R_reads' HO_251001.out).2.2 | (with_reducible refine Kd.C_alloc ?_ _) | (with_reducible refine Kd.C_drewN ?_ _) | (with_reducible refine Kd.C_drew ?_))); (case side2 => rw [show t261.length = t246.length from (Kd.R_reads' HO_251001.out).1.symm]; exact (Kd.R_reads' HO_251001.out).2.1); rintro e w110 ⟨rfl, hb⟩; refine ⟨_, rfl, ?_⟩; have n0_ := Aside0.mk (Kd.R_below qB54 hb); have n1_ := Aside0.mk (Kd.S_below qB55 hb); have n2_ := Aside0.mk (Kd.R_below qB56 hb); have n3_ := Aside0.mk (blk_below (g := gb226) (o := .cells #[.int .i64 a0_0, .int .i64 a0_1, .slice A0_2 l0_2.length c0_2] 44 (0, 0)) qB49 hb); have n4_ := Aside0.mk (blk_below (g := gb238) (o := .cells #[.int .i64 t233, .slice Ao22 t234.length co22] 31 (0, 0)) qB50 hb); have n5_ := Aside0.mk (blk_below (g := gb244) (o := .cells #[.int .i64 t239, .int .i64 t240, .slice Ao29 t241.length co29] 28 (0, 0)) qB51 hb); have n6_ := Aside0.mk (blk_below (g := gb250) (o := .cells #[.int .i64 t245, .slice Ao36 t246.length co36] 31 (0, 0)) qB52 hb); have n7_ := Aside0.mk (below_step qB11 hb); clear HO_239001; clear HO_245002; clear HO_251001; clear BK226; clear BK238; clear BK244; clear BK250; clear HB; have HO_239001 := n0_; have HO_245002 := n1_; have HO_251001 := n2_; have BK226 := n3_; have BK238 := n4_; have BK244 := n5_; have BK250 := n6_; have HB := n7_; clear n0_ n1_ n2_ n3_ n4_ n5_ n6_ n7_; (try clear hb); (try clear hb2); (try clear hk); (try clear hi); have hnb111 := NB226_238.out; have hnc111 := NB238_226.out; have hnb112 := NB226_244.out; have hnc112 := NB244_226.out; have hcz113_0 : w110.cell? ⟨gb226, 0, none⟩ = some (.int .i64 a0_0) := (blk_cell BK226.out 0).trans rfl; have hcz113_1 : w110.cell? ⟨gb226, 1, none⟩ = some (.int .i64 a0_1) := (blk_cell BK226.out 1).trans rfl; have hcz113_2 : w110.cell? ⟨gb226, 2, none⟩ = some (.slice A0_2 l0_2.length c0_2) := (blk_cell BK226.out 2).trans rfl; have hfz113_0 := blk_frozen BK226.out 0; have hfz113_1 := blk_frozen BK226.out 1; have hfz113_2 := blk_frozen BK226.out 2) | ((with_reducible refine gate_callee (f := 25) rfl ?_); refine goesL_ (some 75) rfl rfl Try.func25 (by kernel_rfl) rfl #[.agg #[.int .i64 a0_0, .int .i64 a0_1, .slice A0_2 l0_2.length c0_2]] rfl qB31 ?_; (with_reducible refine (laws_toGauss.calls kj59 a0_0 a0_1 _ _ l0_2 t263 t264 t265 _ ?side1 ?side2 A101.out).mono ?_); (case side1 => repeat (first | exact (Kd.C_below HR0_2.out HB.out) | (with_reducible refine Kd.C_alloc ?_ _) | (with_reducible refine Kd.C_drewN ?_ _) | (with_reducible refine Kd.C_drew ?_))); (case side2 => exact HC0_2.out); rintro e w114 ⟨v266, rfl, ho0, hb⟩; refine ⟨_, rfl, ?_⟩; have n0_ := Aside0.mk (Kd.R_below qB54 hb); have n1_ := Aside0.mk (Kd.S_elder' qB55 (Kd.S_base ho0) hb); have n2_ := Aside0.mk (Kd.R_below qB56 hb); have n3_ := Aside0.mk (Kd.S_lower (Kd.S_new' (Kd.S_new' (Kd.S_new' ho0 (Kd.R_lt qB54)) (Kd.S_lt qB55)) (Kd.R_lt qB56)) (below_size qB11)); have n4_ := Aside0.mk (blk_below (g := gb226) (o := .cells #[.int .i64 a0_0, .int .i64 a0_1, .slice A0_2 l0_2.length c0_2] 44 (0, 0)) qB49 hb); have n5_ := Aside0.mk (blk_below (g := gb238) (o := .cells #[.int .i64 t233, .slice Ao22 t234.length co22] 31 (0, 0)) qB50 hb); have n6_ := Aside0.mk (blk_below (g := gb244) (o := .cells #[.int .i64 t239, .int .i64 t240, .slice Ao29 t241.length co29] 28 (0, 0)) qB51 hb); have n7_ := Aside0.mk (blk_below (g := gb250) (o := .cells #[.int .i64 t245, .slice Ao36 t246.length co36] 31 (0, 0)) qB52 hb); have n8_ := Aside0.mk (below_step qB11 hb); clear HO_239001; clear HO_245002; clear HO_251001; clear BK226; clear BK238; clear BK244; clear BK250; clear HB; have HO_239001 := n0_; have HO_245002 := n1_; have HO_251001 := n2_; have HO267 := n3_; have BK226 := n4_; have BK238 := n5_; have BK244 := n6_; have BK250 := n7_; have HB := n8_; clear n0_ n1_ n2_ n3_ n4_ n5_ n6_ n7_ n8_; (try clear hb); (try clear hb2); (try clear hk); (try clear hi); (try clear ho0); obtain ⟨Ao115, co115, eo115⟩ := Kd.S_slice HO267.out; subst eo115) | ((with_reducible refine gate_callee (f := 34) rfl ?_); refine goesL_ (some 76) rfl rfl Try.func34 (by kernel_rfl) rfl #[.agg #[.int .i64 t263, .int .i64 t264, .slice Ao115 t265.length co115]] rfl qB31 ?_; (with_reducible refine (impl_ConstantOf.calls kj59 t263 t264 _ _ t265 t268 t269 t272 _ ?side1 ?side2 A102.out).mono ?_); (case side1 => repeat (first | exact (Kd.S_reads' HO267.out).2.2 | (with_reducible refine Kd.C_alloc ?_ _) | (with_reducible refine Kd.C_drewN ?_ _) | (with_reducible refine Kd.C_drew ?_))); (case side2 => exact (Kd.S_reads' HO267.out).2.1); rintro e w116 ⟨v270, rfl, ho0, hb⟩; refine ⟨_, rfl, ?_⟩; have n0_ := Aside0.mk (Kd.R_elder' qB54 (Kd.R_base ho0) hb); have n1_ := Aside0.mk (Kd.S_elder' qB55 (Kd.R_base ho0) hb); have n2_ := Aside0.mk (Kd.R_elder' qB56 (Kd.R_base ho0) hb); have n3_ := Aside0.mk (Kd.S_elder' qB62 (Kd.R_base ho0) hb); have n4_ := Aside0.mk (Kd.R_lower (Kd.R_new' (Kd.R_new' ho0 (Kd.R_lt qB54)) (Kd.R_lt qB56)) (below_size qB11)); have n5_ := Aside0.mk (blk_below (g := gb226) (o := .cells #[.int .i64 a0_0, .int .i64 a0_1, .slice A0_2 l0_2.length c0_2] 44 (0, 0)) qB49 hb); have n6_ := Aside0.mk (blk_below (g := gb238) (o := .cells #[.int .i64 t233, .slice Ao22 t234.length co22] 31 (0, 0)) qB50 hb); have n7_ := Aside0.mk (blk_below (g := gb244) (o := .cells #[.int .i64 t239, .int .i64 t240, .slice Ao29 t241.length co29] 28 (0, 0)) qB51 hb); have n8_ := Aside0.mk (blk_below (g := gb250) (o := .cells #[.int .i64 t245, .slice Ao36 t246.length co36] 31 (0, 0)) qB52 hb); have n9_ := Aside0.mk (below_step qB11 hb); clear HO_239001; clear HO_245002; clear HO_251001; clear HO267; clear BK226; clear BK238; clear BK244; clear BK250; clear HB; have HO_239001 := n0_; have HO_245002 := n1_; have HO_251001 := n2_; have HO267 := n3_; have HO271 := n4_; have BK226 := n5_; have BK238 := n6_; have BK244 := n7_; have BK250 := n8_; have HB := n9_; clear n0_ n1_ n2_ n3_ n4_ n5_ n6_ n7_ n8_ n9_; (try clear hb); (try clear hb2); (try clear hk); (try clear hi); (try clear ho0)) | ((with_reducible refine gate_dst (N := 12) rfl ?_); refine box_event ?hg (N := 12) ?hd (cs := #[.int .i64 0, .slice none 0 0]) (t := 31) ?hr ?_; (case hd => rfl); (case hg => rfl); (case hr => first | (go_simp; done) | (go_simp; rfl)); intro gb273 hg w117 hbox hb; have n0_ := Aside0.mk (Kd.R_below qB54 hb); have n1_ := Aside0.mk (Kd.S_below qB55 hb); have n2_ := Aside0.mk (Kd.R_below qB56 hb); have n3_ := Aside0.mk (Kd.S_below qB62 hb); have n4_ := Aside0.mk (Kd.R_below (by (with_reducible repeat (first | apply Kd.R_alloc | apply Kd.R_drewN | apply Kd.R_drew)); exact HO271.out) hb); have n5_ := Aside0.mk (blk_below (g := gb226) (o := .cells #[.int .i64 a0_0, .int .i64 a0_1, .slice A0_2 l0_2.length c0_2] 44 (0, 0)) qB49 hb); have n6_ := Aside0.mk (blk_below (g := gb238) (o := .cells #[.int .i64 t233, .slice Ao22 t234.length co22] 31 (0, 0)) qB50 hb); have n7_ := Aside0.mk (blk_below (g := gb244) (o := .cells #[.int .i64 t239, .int .i64 t240, .slice Ao29 t241.length co29] 28 (0, 0)) qB51 hb); have n8_ := Aside0.mk (blk_below (g := gb250) (o := .cells #[.int .i64 t245, .slice Ao36 t246.length co36] 31 (0, 0)) qB52 hb); have n9_ := Aside0.mk (below_step qB11 hb); have n10_ := Aside0.mk (hbox); have n11_ := Aside0.mk ((by rw [hg]; exact (below_size qB11) : w.heap.size ≤ gb273)); have n12_ := Aside0.mk ((by rw [hg]; exact (below_size qB11) : w.heap.size ≤ gb273)); have n13_ := Aside0.mk ((by rw [hg]; exact Nat.ne_of_lt (blk_lt (g := gb226) (o := .cells #[.int .i64 a0_0, .int .i64 a0_1, .slice A0_2 l0_2.length c0_2] 44 (0, 0)) qB49) : gb226 ≠ gb273)); have n14_ := Aside0.mk ((by rw [hg]; exact Nat.ne_of_gt (blk_lt (g := gb226) (o := .cells #[.int .i64 a0_0, .int .i64 a0_1, .slice A0_2 l0_2.length c0_2] 44 (0, 0)) qB49) : gb273 ≠ gb226)); have n15_ := Aside0.mk ((by rw [hg]; exact Nat.ne_of_lt (blk_lt (g := gb238) (o := .cells #[.int .i64 t233, .slice Ao22 t234.length co22] 31 (0, 0)) qB50) : gb238 ≠ gb273)); have n16_ := Aside0.mk ((by rw [hg]; exact Nat.ne_of_gt (blk_lt (g := gb238) (o := .cells #[.int .i64 t233, .slice Ao22 t234.length co22] 31 (0, 0)) qB50) : gb273 ≠ gb238)); have n17_ := Aside0.mk ((by rw [hg]; exact Nat.ne_of_lt (blk_lt (g := gb244) (o := .cells #[.int .i64 t239, .int .i64 t240, .slice Ao29 t241.length co29] 28 (0, 0)) qB51) : gb244 ≠ gb273)); have n18_ := Aside0.mk ((by rw [hg]; exact Nat.ne_of_gt (blk_lt (g := gb244) (o := .cells #[.int .i64 t239, .int .i64 t240, .slice Ao29 t241.length co29] 28 (0, 0)) qB51) : gb273 ≠ gb244)); have n19_ := Aside0.mk ((by rw [hg]; exact Nat.ne_of_lt (blk_lt (g := gb250) (o := .cells #[.int .i64 t245, .slice Ao36 t246.length co36] 31 (0, 0)) qB52) : gb250 ≠ gb273)); have n20_ := Aside0.mk ((by rw [hg]; exact Nat.ne_of_gt (blk_lt (g := gb250) (o := .cells #[.int .i64 t245, .slice Ao36 t246.length co36] 31 (0, 0)) qB52) : gb273 ≠ gb250)); clear HO_239001; clear HO_245002; clear HO_251001; clear HO267; clear HO271; clear BK226; clear BK238; clear BK244; clear BK250; clear HB; have HO_239001 := n0_; have HO_245002 := n1_; have HO_251001 := n2_; have HO267 := n3_; have HO271 := n4_; have BK226 := n5_; have BK238 := n6_; have BK244 := n7_; have BK250 := n8_; have HB := n9_; have BK273 := n10_; have GW273 := n11_; have GE273 := n12_; have NB226_273 := n13_; have NB273_226 := n14_; have NB238_273 := n15_; have NB273_238 := n16_; have NB244_273 := n17_; have NB273_244 := n18_; have NB250_273 := n19_; have NB273_250 := n20_; clear n0_ n1_ n2_ n3_ n4_ n5_ n6_ n7_ n8_ n9_ n10_ n11_ n12_ n13_ n14_ n15_ n16_ n17_ n18_ n19_ n20_; clear hb hbox hg; have hnb118 := NB273_226.out; have hnc118 := NB226_273.out; have hnb119 := NB273_238.out; have hnc119 := NB238_273.out; have hnb120 := NB273_244.out; have hnc120 := NB244_273.out; have hnb121 := NB273_250.out; have hnc121 := NB250_273.out; have hcz122_0 : w117.cell? ⟨gb273, 0, none⟩ = some (.int .i64 0) := (blk_cell BK273.out 0).trans rfl; have hcz122_1 : w117.cell? ⟨gb273, 1, none⟩ = some (.slice none 0 0) := (blk_cell BK273.out 1).trans rfl; have hfz122_0 := blk_frozen BK273.out 0; have hfz122_1 := blk_frozen BK273.out 1; obtain ⟨Ao123, co123, eo123⟩ := Kd.R_slice HO271.out; subst eo123))
                      (try simp only [Act.put, List.setIfInBounds_toArray, List.set_cons_zero, List.set_cons_succ])
                      go_cut [87] (fun v87 wc => ∃ (kq : Nat) (x87_102 : Bool), v87 = .bool x87_102 ∧ Aside0 (laws_FnExactConstantOf.j2 kq t260 x87_102 t245 t261 = some true) ∧ Aside0 (kq ≤ kj59) ∧ Aside0 (Kd.R (Kd.int .i64) 2 wc w.heap.size (fun k_ => some k_ ≠ ((.slice Ao36 t246.length co36) : Value).ownBlock ∧ some k_ ≠ ((.slice Ao123 t269.length co123) : Value).ownBlock) (.slice Ao22 t234.length co22) t234) ∧ Aside0 (Kd.S (Kd.slice 2 (Kd.int .i64)) 22 wc w.heap.size (fun k_ => some k_ ≠ ((.slice Ao22 t234.length co22) : Value).ownBlock ∧ some k_ ≠ ((.slice Ao36 t246.length co36) : Value).ownBlock ∧ some k_ ≠ ((.slice Ao123 t269.length co123) : Value).ownBlock) (.slice Ao29 t241.length co29) (nMarkS t241 1).2) ∧ Aside0 (Kd.R (Kd.int .i64) 2 wc w.heap.size (fun k_ => some k_ ≠ ((.slice Ao22 t234.length co22) : Value).ownBlock ∧ some k_ ≠ ((.slice Ao123 t269.length co123) : Value).ownBlock) (.slice Ao36 t246.length co36) t261) ∧ Aside0 (Kd.R (Kd.int .i64) 2 wc w.heap.size (fun k_ => some k_ ≠ ((.slice Ao22 t234.length co22) : Value).ownBlock ∧ some k_ ≠ ((.slice Ao36 t246.length co36) : Value).ownBlock) (.slice Ao123 t269.length co123) t269) ∧ Aside0 (wc.heap[gb226]? = some (.cells #[.int .i64 a0_0, .int .i64 a0_1, (.slice A0_2 l0_2.length c0_2)] 44 (0, 0))) ∧ Aside0 (wc.heap[gb238]? = some (.cells #[.int .i64 t233, (.slice Ao22 t234.length co22)] 31 (0, 0))) ∧ Aside0 (wc.heap[gb244]? = some (.cells #[.int .i64 t239, .int .i64 t240, (.slice Ao29 t241.length co29)] 28 (0, 0))) ∧ Aside0 (wc.heap[gb250]? = some (.cells #[.int .i64 t245, (.slice Ao36 t246.length co36)] 31 (0, 0))) ∧ Aside0 (wc.heap[gb273]? = some (.cells #[.int .i64 t268, (.slice Ao123 t269.length co123)] 31 (0, 0))) ∧ Aside0 (Below w.heap.size w wc))
                      case first =>
                        have H := HC103.out
                        clear HC103
                        replace H := Option.bind_eq_some_iff.mp H
                        obtain ⟨t274, A1240, H⟩ := H
                        replace H : (if t274 = true then (laws_FnExactConstantOf.j2 kj59 t260 (t272 != t237) t245 t261) else (laws_FnExactConstantOf.j2 kj59 t260 true t245 t261)) = some true := H
                        have A124 := Aside0.mk A1240
                        clear A1240
                        by_cases c125 : t274 = true
                        · subst c125
                          have H1 : (laws_FnExactConstantOf.j2 kj59 t260 (t272 != t237) t245 t261) = some true := by rw [if_pos rfl] at H; exact H
                          clear H
                          have H := H1
                          clear H1
                          have H' := Aside0.mk H
                          clear H
                          have hnb126 := NB273_226.out
                          have hnc126 := NB226_273.out
                          have hnb127 := NB273_238.out
                          have hnc127 := NB238_273.out
                          have hnb128 := NB273_244.out
                          have hnc128 := NB244_273.out
                          have hnb129 := NB273_250.out
                          have hnc129 := NB250_273.out
                          have hcz130_0 : w117.cell? ⟨gb273, 0, none⟩ = some (.int .i64 0) := (blk_cell BK273.out 0).trans rfl
                          have hcz130_1 : w117.cell? ⟨gb273, 1, none⟩ = some (.slice none 0 0) := (blk_cell BK273.out 1).trans rfl
                          have hfz130_0 := blk_frozen BK273.out 0
                          have hfz130_1 := blk_frozen BK273.out 1
                          have hnb131 := NB238_226.out
                          have hnc131 := NB226_238.out
                          have hnb132 := NB238_244.out
                          have hnc132 := NB244_238.out
                          have hnb133 := NB238_250.out
                          have hnc133 := NB250_238.out
                          have hcz134_0 : w117.cell? ⟨gb238, 0, none⟩ = some (.int .i64 t233) := (blk_cell BK238.out 0).trans rfl
                          have hcz134_1 : w117.cell? ⟨gb238, 1, none⟩ = some (.slice Ao22 t234.length co22) := (blk_cell BK238.out 1).trans rfl
                          have hfz134_0 := blk_frozen BK238.out 0
                          have hfz134_1 := blk_frozen BK238.out 1
                          go_wp2_with (first | ((with_reducible refine gate_callee (f := 16) rfl ?_); refine goesL_ (some 81) rfl rfl Try.func16 (by kernel_rfl) rfl #[.agg #[.int .i64 t268, .slice Ao123 t269.length co123], .agg #[.int .i64 t233, .slice Ao22 t234.length co22]] rfl qB31 ?_; (with_reducible refine (laws_eqCyclo.calls kj59 t268 _ _ t269 t233 _ _ t234 true _ ?side1 ?side2 ?side3 ?side4 A124.out).mono ?_); (case side1 => refine (Kd.R_reads' (e := 2) (base := w.heap.size) (ok := fun k_ => ((True ∧ some k_ ≠ (.slice Ao22 t234.length co22 : Value).ownBlock) ∧ some k_ ≠ (.slice Ao36 t246.length co36 : Value).ownBlock)) (n := t269.length) (c := co123) ?_).2.2; exact qB5); (case side2 => exact (Kd.R_reads' HO271.out).2.1); (case side3 => refine (Kd.R_reads' (e := 2) (base := w.heap.size) (ok := fun k_ => (some k_ ≠ (.slice Ao36 t246.length co36 : Value).ownBlock ∧ some k_ ≠ (.slice Ao123 t269.length co123 : Value).ownBlock)) (n := t234.length) (c := co22) ?_).2.2; exact qB4); (case side4 => exact (Kd.R_reads' HO_239001.out).2.1); rintro e w135 ⟨rfl, hb⟩; refine ⟨_, rfl, ?_⟩; have n0_ := Aside0.mk (Kd.R_below qB4 hb); have n1_ := Aside0.mk (Kd.S_below (by (with_reducible repeat (first | apply Kd.S_alloc | apply Kd.S_drewN | apply Kd.S_drew)); exact (Kd.S_mono (Kd.S_far (p := ⟨gb273, 1, none⟩) (Kd.S_far (p := ⟨gb273, 0, none⟩) (Kd.S_types HO_245002.out BK273.out (by decide)) (fun _ hk => hk.2) (.int .i64 t268)) (fun _ hk => hk.2) (.slice Ao123 t269.length co123)) (fun _ h_ => h_.1))) hb); have n2_ := Aside0.mk (Kd.R_below (by (with_reducible repeat (first | apply Kd.R_alloc | apply Kd.R_drewN | apply Kd.R_drew)); exact (Kd.R_mono (Kd.R_far (p := ⟨gb273, 1, none⟩) (Kd.R_far (p := ⟨gb273, 0, none⟩) (Kd.R_types HO_251001.out BK273.out (by decide)) (fun _ hk => hk.2) (.int .i64 t268)) (fun _ hk => hk.2) (.slice Ao123 t269.length co123)) (fun _ h_ => h_.1))) hb); have n3_ := Aside0.mk (Kd.S_below (by (with_reducible repeat (first | apply Kd.S_alloc | apply Kd.S_drewN | apply Kd.S_drew)); exact (Kd.S_mono (Kd.S_far (p := ⟨gb273, 1, none⟩) (Kd.S_far (p := ⟨gb273, 0, none⟩) (Kd.S_types HO267.out BK273.out (by decide)) (fun _ hk => hk.2) (.int .i64 t268)) (fun _ hk => hk.2) (.slice Ao123 t269.length co123)) (fun _ h_ => h_.1))) hb); have n4_ := Aside0.mk (Kd.R_below qB5 hb); have n5_ := Aside0.mk (blk_below (g := gb226) (o := .cells #[.int .i64 a0_0, .int .i64 a0_1, .slice A0_2 l0_2.length c0_2] 44 (0, 0)) (by (with_reducible repeat (first | refine blk_drewN ?_ _ | refine blk_drew ?_ | refine blk_alloc ?_ _)); refine blk_far ?_ NB226_273.out _; (with_reducible repeat (first | refine blk_drewN ?_ _ | refine blk_drew ?_ | refine blk_alloc ?_ _)); refine blk_far ?_ NB226_273.out _; (with_reducible repeat (first | refine blk_drewN ?_ _ | refine blk_drew ?_ | refine blk_alloc ?_ _)); exact BK226.out) hb); have n6_ := Aside0.mk (blk_below (g := gb238) (o := .cells #[.int .i64 t233, .slice Ao22 t234.length co22] 31 (0, 0)) (by (with_reducible repeat (first | refine blk_drewN ?_ _ | refine blk_drew ?_ | refine blk_alloc ?_ _)); refine blk_far ?_ NB238_273.out _; (with_reducible repeat (first | refine blk_drewN ?_ _ | refine blk_drew ?_ | refine blk_alloc ?_ _)); refine blk_far ?_ NB238_273.out _; (with_reducible repeat (first | refine blk_drewN ?_ _ | refine blk_drew ?_ | refine blk_alloc ?_ _)); exact BK238.out) hb); have n7_ := Aside0.mk (blk_below (g := gb244) (o := .cells #[.int .i64 t239, .int .i64 t240, .slice Ao29 t241.length co29] 28 (0, 0)) (by (with_reducible repeat (first | refine blk_drewN ?_ _ | refine blk_drew ?_ | refine blk_alloc ?_ _)); refine blk_far ?_ NB244_273.out _; (with_reducible repeat (first | refine blk_drewN ?_ _ | refine blk_drew ?_ | refine blk_alloc ?_ _)); refine blk_far ?_ NB244_273.out _; (with_reducible repeat (first | refine blk_drewN ?_ _ | refine blk_drew ?_ | refine blk_alloc ?_ _)); exact BK244.out) hb); have n8_ := Aside0.mk (blk_below (g := gb250) (o := .cells #[.int .i64 t245, .slice Ao36 t246.length co36] 31 (0, 0)) (by (with_reducible repeat (first | refine blk_drewN ?_ _ | refine blk_drew ?_ | refine blk_alloc ?_ _)); refine blk_far ?_ NB250_273.out _; (with_reducible repeat (first | refine blk_drewN ?_ _ | refine blk_drew ?_ | refine blk_alloc ?_ _)); refine blk_far ?_ NB250_273.out _; (with_reducible repeat (first | refine blk_drewN ?_ _ | refine blk_drew ?_ | refine blk_alloc ?_ _)); exact BK250.out) hb); have n9_ := Aside0.mk (blk_below (g := gb273) (o := .cells #[.int .i64 t268, .slice Ao123 t269.length co123] 31 (0, 0)) (by (with_reducible repeat (first | refine blk_drewN ?_ _ | refine blk_drew ?_ | refine blk_alloc ?_ _)); refine blk_put (cs := #[.int .i64 t268, .slice none 0 0]) ?_ 1 _ rfl; (with_reducible repeat (first | refine blk_drewN ?_ _ | refine blk_drew ?_ | refine blk_alloc ?_ _)); refine blk_put (cs := #[.int .i64 0, .slice none 0 0]) ?_ 0 _ rfl; (with_reducible repeat (first | refine blk_drewN ?_ _ | refine blk_drew ?_ | refine blk_alloc ?_ _)); exact BK273.out) hb); have n10_ := Aside0.mk (below_step qB10 hb); clear HO_239001; clear HO_245002; clear HO_251001; clear HO267; clear HO271; clear BK226; clear BK238; clear BK244; clear BK250; clear BK273; clear HB; have HO_239001 := n0_; have HO_245002 := n1_; have HO_251001 := n2_; have HO267 := n3_; have HO271 := n4_; have BK226 := n5_; have BK238 := n6_; have BK244 := n7_; have BK250 := n8_; have BK273 := n9_; have HB := n10_; clear n0_ n1_ n2_ n3_ n4_ n5_ n6_ n7_ n8_ n9_ n10_; (try clear hb); (try clear hb2); (try clear hk); (try clear hi)))
                          go_meet
                          case rel => exact ⟨_, ((t272 != t237)), qB66, H', ⟨by have := HJ10.out; have := HJ59.out; first | omega | exact Nat.le_refl _⟩, ⟨by (with_reducible repeat (first | apply Kd.R_alloc | apply Kd.R_drewN | apply Kd.R_drew)); exact HO_239001.out⟩, ⟨by (with_reducible repeat (first | apply Kd.S_alloc | apply Kd.S_drewN | apply Kd.S_drew)); exact Kd.S_mono HO_245002.out (fun _ hk => ⟨hk.1.1.1, ⟨hk.1.1.2, hk.2⟩⟩)⟩, ⟨by (with_reducible repeat (first | apply Kd.R_alloc | apply Kd.R_drewN | apply Kd.R_drew)); exact HO_251001.out⟩, ⟨by (with_reducible repeat (first | apply Kd.R_alloc | apply Kd.R_drewN | apply Kd.R_drew)); exact Kd.R_mono HO271.out (fun _ hk => ⟨hk.1.2, hk.2⟩)⟩, ⟨by (with_reducible repeat (first | refine blk_drewN ?_ _ | refine blk_drew ?_ | refine blk_alloc ?_ _)); exact BK226.out⟩, ⟨by (with_reducible repeat (first | refine blk_drewN ?_ _ | refine blk_drew ?_ | refine blk_alloc ?_ _)); exact BK238.out⟩, ⟨by (with_reducible repeat (first | refine blk_drewN ?_ _ | refine blk_drew ?_ | refine blk_alloc ?_ _)); exact BK244.out⟩, ⟨by (with_reducible repeat (first | refine blk_drewN ?_ _ | refine blk_drew ?_ | refine blk_alloc ?_ _)); exact BK250.out⟩, ⟨by (with_reducible repeat (first | refine blk_drewN ?_ _ | refine blk_drew ?_ | refine blk_alloc ?_ _)); exact BK273.out⟩, ⟨by repeat (first | (with_reducible first | exact HB.out | apply below_alloc | apply pw_below_drewN | apply below_drew1 | refine below_set ?_ GE226.out | refine below_set ?_ GE238.out | refine below_set ?_ GE244.out | refine below_set ?_ GE250.out | refine below_set ?_ GE273.out) | exact HB.out)⟩⟩
                        · replace c125 := Bool.eq_false_iff.mpr c125
                          subst c125
                          have H1 : (laws_FnExactConstantOf.j2 kj59 t260 true t245 t261) = some true := by rw [if_neg (show ¬ (false = true) by decide)] at H; exact H
                          exact (laws_FnExactConstantOf.j2_no _ _ _ _ H1).elim
                      case rest =>
                        clear HC103
                        try clear c1
                        try clear c2
                        try clear p2
                        try clear c3
                        try clear c3b0
                        try clear c4
                        try clear c5
                        try clear c6
                        try clear c7
                        try clear c8
                        try clear c9
                        try clear c10
                        try clear c11
                        try clear c12
                        try clear c13
                        try clear c14
                        try clear c15
                        try clear c16
                        try clear c17
                        try clear c20
                        try clear c23
                        try clear c25
                        try clear c26
                        try clear c27
                        try clear c32
                        try clear c33
                        try clear c34
                        try clear c35
                        try clear c38
                        try clear c39
                        try clear c40
                        try clear c41
                        try clear c43
                        try clear c44
                        try clear c47
                        try clear c48
                        try clear c49
                        try clear c51
                        try clear c52
                        try clear c55
                        try clear c58
                        try clear c65
                        try clear c66
                        try clear c67
                        try clear c70
                        try clear c70b0
                        try clear c72
                        try clear c73
                        try clear c74
                        try clear c75
                        try clear c77
                        try clear c78
                        try clear c81
                        try clear c82
                        try clear c83
                        try clear c85
                        try clear c86
                        try clear c89
                        try clear c92
                        try clear c92b0
                        try clear c93
                        try clear c94
                        try clear c95
                        try clear c100
                        try clear c100b0
                        try clear c100b1
                        try clear c104
                        try clear c105
                        try clear c106
                        try clear c111
                        try clear c112
                        try clear c118
                        try clear c119
                        try clear c120
                        try clear c121
                        try clear c125
                        try clear c126
                        try clear c127
                        try clear c128
                        try clear c129
                        try clear c131
                        try clear c132
                        try clear c133
                        try clear c136
                        try clear c137
                        try clear c138
                        try clear c139
                        try clear c141
                        try clear c142
                        try clear c143
                        try clear hcz107_0
                        try clear hcz107_1
                        try clear hcz109_0
                        try clear hcz109_1
                        try clear hcz113_0
                        try clear hcz113_1
                        try clear hcz113_2
                        try clear hcz122_0
                        try clear hcz122_1
                        try clear hcz130_0
                        try clear hcz130_1
                        try clear hcz134_0
                        try clear hcz134_1
                        try clear hcz13_0
                        try clear hcz13_1
                        try clear hcz13_2
                        try clear hcz140_0
                        try clear hcz140_1
                        try clear hcz144_0
                        try clear hcz144_1
                        try clear hcz15_0
                        try clear hcz15_1
                        try clear hcz15_2
                        try clear hcz21_0
                        try clear hcz21_1
                        try clear hcz23_0
                        try clear hcz23_1
                        try clear hcz23_2
                        try clear hcz28_0
                        try clear hcz28_1
                        try clear hcz28_2
                        try clear hcz35_0
                        try clear hcz35_1
                        try clear hcz42_0
                        try clear hcz42_1
                        try clear hcz45_0
                        try clear hcz45_1
                        try clear hcz50_0
                        try clear hcz50_1
                        try clear hcz53_0
                        try clear hcz53_1
                        try clear hcz5_0
                        try clear hcz5_1
                        try clear hcz5_2
                        try clear hcz68_0
                        try clear hcz68_1
                        try clear hcz68_2
                        try clear hcz76_0
                        try clear hcz76_1
                        try clear hcz79_0
                        try clear hcz79_1
                        try clear hcz84_0
                        try clear hcz84_1
                        try clear hcz87_0
                        try clear hcz87_1
                        try clear hcz96_0
                        try clear hcz96_1
                        try clear hcz98_0
                        try clear hcz98_1
                        try clear hfz107_0
                        try clear hfz107_1
                        try clear hfz109_0
                        try clear hfz109_1
                        try clear hfz113_0
                        try clear hfz113_1
                        try clear hfz113_2
                        try clear hfz122_0
                        try clear hfz122_1
                        try clear hfz130_0
                        try clear hfz130_1
                        try clear hfz134_0
                        try clear hfz134_1
                        try clear hfz13_0
                        try clear hfz13_1
                        try clear hfz13_2
                        try clear hfz140_0
                        try clear hfz140_1
                        try clear hfz144_0
                        try clear hfz144_1
                        try clear hfz15_0
                        try clear hfz15_1
                        try clear hfz15_2
                        try clear hfz21_0
                        try clear hfz21_1
                        try clear hfz23_0
                        try clear hfz23_1
                        try clear hfz23_2
                        try clear hfz28_0
                        try clear hfz28_1
                        try clear hfz28_2
                        try clear hfz35_0
                        try clear hfz35_1
                        try clear hfz42_0
                        try clear hfz42_1
                        try clear hfz45_0
                        try clear hfz45_1
                        try clear hfz50_0
                        try clear hfz50_1
                        try clear hfz53_0
                        try clear hfz53_1
                        try clear hfz5_0
                        try clear hfz5_1
                        try clear hfz5_2
                        try clear hfz68_0
                        try clear hfz68_1
                        try clear hfz68_2
                        try clear hfz76_0
                        try clear hfz76_1
                        try clear hfz79_0
                        try clear hfz79_1
                        try clear hfz84_0
                        try clear hfz84_1
                        try clear hfz87_0
                        try clear hfz87_1
                        try clear hfz96_0
                        try clear hfz96_1
                        try clear hfz98_0
                        try clear hfz98_1
                        try clear p2
                        obtain ⟨kq, x87_102, rfl, HA, HJ102, HO_239001, HO_245002, HO_251001, HO_274001, BK226, BK238, BK244, BK250, BK273, HB⟩ := hcut
                        have hl251001_102 := (Kd.R_reads' HO_251001.out).1
                        rw [hl251001_102] at HO_251001
                        (try simp only [hl251001_102])
                        (try simp only [hl251001_102] at BK226)
                        (try simp only [hl251001_102] at BK238)
                        (try simp only [hl251001_102] at BK244)
                        (try simp only [hl251001_102] at BK250)
                        (try simp only [hl251001_102] at BK273)
                        (try simp only [hl251001_102] at HO_239001)
                        (try simp only [hl251001_102] at HO_245002)
                        (try simp only [hl251001_102] at HO_274001)
                        cases kq with
                        | zero => exact absurd HA.out (by simp [laws_FnExactConstantOf.j2])
                        | succ kj102 =>
                          have H := HA.out
                          clear HA
                          simp only [laws_FnExactConstantOf.j2] at H
                          by_cases c146 : x87_102 = true
                          · subst c146
                            have H1 : (some false) = some true := by rw [if_pos rfl] at H; exact H
                            cases H1
                          · replace c146 := Bool.eq_false_iff.mpr c146
                            subst c146
                            have H1 : ((laws_heldCyclo.f kj102 t245 t261 1).bind fun t275 => (if t275 < 0 then (some false) else (if t275 = t260 then (some true) else (some false)))) = some true := by rw [if_neg (show ¬ (false = true) by decide)] at H; exact H
                            clear H
                            have H := H1
                            clear H1
                            replace H := Option.bind_eq_some_iff.mp H
                            obtain ⟨t275, A1470, H⟩ := H
                            replace H : (if t275 < 0 then (some false) else (if t275 = t260 then (some true) else (some false))) = some true := H
                            have A147 := Aside0.mk A1470
                            clear A1470
                            by_cases c148 : t275 < 0
                            · rw [if_pos c148] at H
                              cases H
                            · rw [if_neg c148] at H
                              have c148b0 : decide (t275 < 0) = false := decide_eq_false c148
                              clear c148
                              by_cases c155 : t275 = t260
                              · rw [if_pos c155] at H
                                have c155b0 : (t275 == t260) = true := beq_iff_eq.mpr c155
                                have c155b1 : (t275 != t260) = false := bne_eq_false_iff_eq.mpr c155
                                clear c155
                                clear H
                                have hnb156 := NB250_226.out
                                have hnc156 := NB226_250.out
                                have hnb157 := NB250_238.out
                                have hnc157 := NB238_250.out
                                have hnb158 := NB250_244.out
                                have hnc158 := NB244_250.out
                                have hnb159 := NB250_273.out
                                have hnc159 := NB273_250.out
                                have hcz160_0 : wc.cell? ⟨gb250, 0, none⟩ = some (.int .i64 t245) := (blk_cell BK250.out 0).trans rfl
                                have hcz160_1 : wc.cell? ⟨gb250, 1, none⟩ = some (.slice Ao36 t261.length co36) := (blk_cell BK250.out 1).trans rfl
                                have hfz160_0 := blk_frozen BK250.out 0
                                have hfz160_1 := blk_frozen BK250.out 1
                                go_wp2_with (first | ((with_reducible refine gate_callee (f := 35) rfl ?_); refine goesL_ (some 90) rfl rfl Try.func35 (by kernel_rfl) rfl #[.agg #[.int .i64 t245, .slice Ao36 t261.length co36], .int .i64 1] rfl qB31 ?_; (with_reducible refine (laws_heldCyclo.calls kj102 t245 _ _ t261 1 t275 _ ?side1 ?side2 A147.out).mono ?_); (case side1 => repeat (first | exact (Kd.R_reads' HO_251001.out).2.2 | (with_reducible refine Kd.C_alloc ?_ _) | (with_reducible refine Kd.C_drewN ?_ _) | (with_reducible refine Kd.C_drew ?_))); (case side2 => exact (Kd.R_reads' HO_251001.out).2.1); rintro e w161 ⟨rfl, hb⟩; refine ⟨_, rfl, ?_⟩; have n0_ := Aside0.mk (Kd.R_below qB54 hb); have n1_ := Aside0.mk (Kd.S_below qB55 hb); have n2_ := Aside0.mk (Kd.R_below qB56 hb); have n3_ := Aside0.mk (Kd.R_below (by (with_reducible repeat (first | apply Kd.R_alloc | apply Kd.R_drewN | apply Kd.R_drew)); exact HO_274001.out) hb); have n4_ := Aside0.mk (blk_below (g := gb226) (o := .cells #[.int .i64 a0_0, .int .i64 a0_1, .slice A0_2 l0_2.length c0_2] 44 (0, 0)) qB49 hb); have n5_ := Aside0.mk (blk_below (g := gb238) (o := .cells #[.int .i64 t233, .slice Ao22 t234.length co22] 31 (0, 0)) qB50 hb); have n6_ := Aside0.mk (blk_below (g := gb244) (o := .cells #[.int .i64 t239, .int .i64 t240, .slice Ao29 t241.length co29] 28 (0, 0)) qB51 hb); have n7_ := Aside0.mk (blk_below (g := gb250) (o := .cells #[.int .i64 t245, .slice Ao36 t261.length co36] 31 (0, 0)) qB52 hb); have n8_ := Aside0.mk (blk_below (g := gb273) (o := .cells #[.int .i64 t268, .slice Ao123 t269.length co123] 31 (0, 0)) (by (with_reducible repeat (first | refine blk_drewN ?_ _ | refine blk_drew ?_ | refine blk_alloc ?_ _)); exact BK273.out) hb); have n9_ := Aside0.mk (below_step qB10 hb); clear HO_239001; clear HO_245002; clear HO_251001; clear HO_274001; clear BK226; clear BK238; clear BK244; clear BK250; clear BK273; clear HB; have HO_239001 := n0_; have HO_245002 := n1_; have HO_251001 := n2_; have HO_274001 := n3_; have BK226 := n4_; have BK238 := n5_; have BK244 := n6_; have BK250 := n7_; have BK273 := n8_; have HB := n9_; clear n0_ n1_ n2_ n3_ n4_ n5_ n6_ n7_ n8_ n9_; (try clear hb); (try clear hb2); (try clear hk); (try clear hi)))
                                go_ret
                                exact ⟨by first | rfl | (simp [errW_none, errW_some] <;> rfl) | (simp [*, errW_none, errW_some] <;> rfl), by repeat (first | (with_reducible first | exact HB.out | apply below_alloc | apply pw_below_drewN | apply below_drew1 | refine below_set ?_ GE226.out | refine below_set ?_ GE238.out | refine below_set ?_ GE244.out | refine below_set ?_ GE250.out | refine below_set ?_ GE273.out) | exact HB.out)⟩
                              · rw [if_neg c155] at H
                                cases H
                    · rw [if_neg c100] at H
                      cases H
          · replace c58 := Bool.eq_false_iff.mpr c58
            subst c58
            have H1 : (some false) = some true := by rw [if_neg (show ¬ (false = true) by decide)] at H; exact H
            cases H1

/-- THE ONE PURE STATEMENT of laws_FnExactConstantOf. -/
def laws_FnExactConstantOf.Pure : Prop := ∀ (a0_0 : Int) (a0_1 : Int) (l0_2 : List (List Int)), (Lit.int .i64 a0_0).wf = true → (Lit.int .i64 a0_1).wf = true → l0_2.length ≤ maxLen → (∀ r ∈ l0_2, r.length ≤ maxLen ∧ ∀ x ∈ r, (Lit.int .i64 x).wf = true) → ∃ k, laws_FnExactConstantOf.f k a0_0 a0_1 l0_2 = some true
theorem laws_FnExactConstantOf.walk (P : laws_FnExactConstantOf.Pure) (a0_0 : Int) (a0_1 : Int) (A0_2 : Option Addr) (c0_2 : Nat) (l0_2 : List (List Int)) (w : World) (w0_0 : (Lit.int .i64 a0_0).wf = true) (w0_1 : (Lit.int .i64 a0_1).wf = true) (w0_2 : (Kd.slice 2 (Kd.int .i64)).C w A0_2 l0_2.length l0_2 ∧ l0_2.length ≤ c0_2 ∧ l0_2.length ≤ maxLen ∧ ∀ r ∈ l0_2, r.length ≤ maxLen ∧ ∀ x ∈ r, (Lit.int .i64 x).wf = true) :
    Calls Try.prog 9 #[.agg #[.int .i64 a0_0, .int .i64 a0_1, .slice A0_2 l0_2.length c0_2]] w fun e w' => e = .returned (.bool true) ∧ Below w.heap.size w w' := by
  obtain ⟨k, h⟩ := P a0_0 a0_1 l0_2 w0_0 w0_1 w0_2.2.2.1 w0_2.2.2.2
  refine (laws_FnExactConstantOf.calls k a0_0 a0_1 _ _ l0_2 w w0_2.1 w0_2.2.1 h).mono ?_
  rintro e w' ⟨rfl, hd⟩
  exact ⟨rfl, hd⟩

end Go.Proofs.Ytkjeadgfoedhbaa.PFnExactConstantOf
