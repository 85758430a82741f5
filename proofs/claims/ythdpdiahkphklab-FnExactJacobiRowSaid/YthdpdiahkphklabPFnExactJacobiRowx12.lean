/- The functions that the law reaches, as plain functions, each with the proof that the program comes to it; no condition. Written by a program of this session (wip/mp.py) over the printing of the kit; what is marked HAND is told by hand. -/
import Derived.Test.YthdpdiahkphklabPFnExactJacobiRowx0
namespace Go.Proofs.Ythdpdiahkphklab.PFnExactJacobiRow
open Go.RowKit Go.Proofs.YthdpdiahkphklabW.PrintWords Go.Proofs.YthdpdiahkphklabW.PrintLast Go.Proofs.YthdpdiahkphklabW.PrintMore
attribute [local go_sem] max2_int min2_int max_two min_two max_three min_three max_four min_four   -- for this text's walks alone
set_option linter.unusedVariables false
set_option linter.unusedSimpArgs false

/-! ### laws_markInt64S: function 11 -/
def laws_markInt64S.l0 : Nat → List Int → Int → Int → Option (Int × List Int)
  | 0, _, _, _ => none
  | k + 1, x0, x1, x5 => if x5 < (x0.length : Int) then (if 0 ≤ x5 then (laws_markInt64S.l0 k (x0.set (x5 : Int).toNat x1) (wrap64 (x1 + 1)) (wrap64 (x5 + 1))) else (none)) else (some (x1, x0))
def laws_markInt64S.f (k : Nat) (l0 : List Int) (a1 : Int) : Option (Int × List Int) := laws_markInt64S.l0 k l0 a1 0
theorem laws_markInt64S.mono_l : ∀ k, (∀ y0 y1 y2, LeO (laws_markInt64S.l0 k y0 y1 y2) (laws_markInt64S.l0 (k + 1) y0 y1 y2))
  | 0 => fun _ _ _ r h => by simp [laws_markInt64S.l0] at h
  | k + 1 => by
    have ih0 := laws_markInt64S.mono_l k
    · intro y0 y1 y2
      unfold laws_markInt64S.l0
      repeat' first
      | (with_reducible exact ih0 _ _ _)
      | (with_reducible exact LeO.refl _)
      | (with_reducible exact LeO.none _)
      | (with_reducible refine LeO.ite ?_ ?_)
      | (with_reducible refine LeO.bind ?_ (fun _ => ?_))
      | exact ih0 _ _ _
      | exact LeO.none _
      | refine LeO.ite ?_ ?_
      | refine LeO.bind ?_ (fun _ => ?_)
theorem laws_markInt64S.mono : ∀ a0 a1 k, LeO (laws_markInt64S.f k a0 a1) (laws_markInt64S.f (k + 1) a0 a1) := by
  intro a0 a1 k
  have ih0 := laws_markInt64S.mono_l k
  unfold laws_markInt64S.f
  repeat' first
      | (with_reducible exact ih0 _ _ _)
      | (with_reducible exact LeO.refl _)
      | (with_reducible exact LeO.none _)
      | (with_reducible refine LeO.ite ?_ ?_)
      | (with_reducible refine LeO.bind ?_ (fun _ => ?_))
      | exact ih0 _ _ _
      | exact LeO.none _
      | refine LeO.ite ?_ ?_
      | refine LeO.bind ?_ (fun _ => ?_)
set_option maxHeartbeats 8000000 in
set_option maxRecDepth 100000 in
theorem laws_markInt64S.calls (k : Nat) (P0_ : Nat → Prop) (u9000_ : Value) (l0 : List Int) (a1 : Int) (r1 : Int) (r2 : List Int) (w0 w : World) (hB : Below w0.heap.size w0 w) (ho0 : Kd.R (Kd.int .i64) 2 w w0.heap.size P0_ u9000_ l0) (h : laws_markInt64S.f k l0 a1 = some (r1, r2)) :
    Calls Try.prog 11 #[u9000_, .int .i64 a1] w fun e w' => e = .returned (.int .i64 r1) ∧ Kd.R (Kd.int .i64) 2 w' w0.heap.size (fun k_ => (P0_ k_ ∨ w.heap.size ≤ k_)) u9000_ r2 ∧ Below w0.heap.size w0 w' ∧ Kept w w' (fun k_ => P0_ k_) := by
  have HO0 := Aside0.mk (show Kd.R (Kd.int .i64) 2 w w0.heap.size (fun k_ => (P0_ k_ ∨ w.heap.size ≤ k_)) u9000_ l0 from Kd.R_mono ho0 (fun k_ hk => (.inl hk)))
  have HK := Aside0.mk (Kept.refl w (fun k_ => P0_ k_))
  have HW0 := Aside0.mk hB.size
  have HB := Aside0.mk hB
  clear hB
  have H : (laws_markInt64S.l0 k l0 a1 0) = some (r1, r2) := h
  clear h
  have H' := Aside0.mk H
  clear H
  go_enter Try.func11, Try.ntmps11
  go_wp2
  try simp only [Act.put, List.setIfInBounds_toArray, List.set_cons_succ, List.set_cons_zero]
  go_loopg [1, 5] k (fun kq v1 v5 w' => ∃ (x0_1 : List Int) (x1_1 : Int) (x5_1 : Int), v1 = .int .i64 x1_1 ∧ v5 = .int .i64 x5_1 ∧ Aside0 (laws_markInt64S.l0 kq x0_1 x1_1 x5_1 = some (r1, r2)) ∧ Aside0 (kq ≤ k) ∧ Aside0 (Kd.R (Kd.int .i64) 2 w' w0.heap.size (fun k_ => (P0_ k_ ∨ w.heap.size ≤ k_)) u9000_ x0_1) ∧ Aside0 (Kept w w' (fun k_ => P0_ k_)) ∧ Aside0 (Below w0.heap.size w0 w'))
  case atStart => exact ⟨(l0), (a1), (0), qB83, qB83, H', ⟨Nat.le_refl _⟩, ⟨by (with_reducible repeat (first | apply Kd.R_alloc | apply Kd.R_drewN | apply Kd.R_drew)); exact HO0.out⟩, ⟨by repeat (first | (with_reducible first | exact HK.out | apply Kept.alloc | apply Kept.drewN | apply Kept.drew) | exact HK.out)⟩, ⟨by repeat (first | (with_reducible first | exact HB.out | apply below_alloc | apply pw_below_drewN | apply below_drew1) | exact HB.out)⟩⟩
  case round =>
    clear H'
    try clear c1
    try clear p2
    obtain ⟨x0_1, x1_1, x5_1, rfl, rfl, HA, HK1, HO_0, HK, HB⟩ := hrel
    cases gk with
    | zero => exact absurd HA.out (by simp [laws_markInt64S.l0])
    | succ k1 =>
      have H := HA.out
      clear HA
      simp only [laws_markInt64S.l0] at H
      by_cases c3 : x5_1 < (x0_1.length : Int)
      · rw [if_pos c3] at H
        have c3b0 : decide (x5_1 < (x0_1.length : Int)) = true := decide_eq_true c3
        clear c3
        by_cases c4 : 0 ≤ x5_1
        · rw [if_pos c4] at H
          have c4b0 : decide (0 ≤ x5_1) = true := decide_eq_true c4
          clear c4
          obtain ⟨y413, hy413⟩ : ∃ y_ : List Int, y_ = (x0_1.set (x5_1 : Int).toNat x1_1) := ⟨_, rfl⟩
          replace H : (laws_markInt64S.l0 k1 y413 (wrap64 (x1_1 + 1)) (wrap64 (x5_1 + 1))) = some (r1, r2) := by first | (rw [hy413]; with_reducible exact H) | (have H2_ := (Option.bind_some _ _).symm.trans H; rw [hy413]; with_reducible exact H2_) | (have H2_ := (Option.bind_some _ _).symm.trans H; with_reducible exact H2_) | with_reducible exact H | (rw [hy413]; exact H) | exact H
          have Ny413 := Aside0.mk hy413
          clear hy413
          have H' := Aside0.mk H
          clear H
          obtain ⟨Ao6, co6, eo6⟩ := Kd.R_slice HO_0.out
          subst eo6
          have p5 : 0 ≤ (x5_1 : Int) := of_decide_eq_true qB82
          have q5 : (x5_1 : Int) < ((x0_1.length : Int) : Int) := of_decide_eq_true qB82
          obtain ⟨go5, co5, eo5, gb5, gl5, cl5, HG5⟩ := Kd.R_form HO_0.out (by omega)
          (first | cases eo5 | (injection eo5 with ea_ en_ ec_; (first | subst ea_ | (injection ea_ with ea_; subst ea_)); subst ec_; clear en_))
          have GB5 := Aside0.mk gb5
          have GG5 := Aside0.mk HG5
          clear gb5 gl5 HG5
          have HMgo5 := Aside0.mk (show (P0_ go5 ∨ w.heap.size ≤ go5) from (HO_0.out.1 _ rfl))
          obtain ⟨hx5_0, hf5_0⟩ := Kd.R_celln 0 HO_0.out (x5_1 : Int) p5 q5
          replace p5 := eq_true p5
          replace q5 := eq_true q5
          have HP7 := Kd.R_putg HO_0.out (x5_1 : Int) x1_1
          go_wp2_with (first | ((with_reducible refine gate_store (t := 2) (p := 15) rfl ?_); refine store_event (t := 2) (p := 15) (v := ?vo_w8) (w1 := (wr.setCell ⟨go5, (x5_1 : Int).toNat, none⟩ (.int .i64 x1_1))) ?hg ?ho ?hn ?hr ?_; (case ho => rfl); (case hg => rfl); (case hn => rfl); (case hr => first | (go_simp; done) | (go_simp; rfl)); intro w8 hw; have hg : wr.grownBy w8 (some go5) := (by rw [hw]; exact HP7.2); have hp_ : Kd.R (Kd.int .i64) 2 w8 w0.heap.size (fun k_ => (P0_ k_ ∨ w.heap.size ≤ k_)) (.slice (some ⟨go5, 0, none⟩) x0_1.length co6) y413 := (by rw [hw, Ny413.out]; exact HP7.1); clear HP7; have n0_ := Aside0.mk (hp_); have n1_ := Aside0.mk ((by rw [hw]; exact below_set (HB.out) GB5.out : Below w0.heap.size w0 w8)); have n2_ := Aside0.mk (Kept.of_grown (S := (fun k_ => P0_ k_)) hg (by repeat (first | (with_reducible first | exact HK.out | apply Kept.alloc | apply Kept.drewN | apply Kept.drew) | exact HK.out)) (fun k_ e_ => (HO_0.out.1 k_ e_))); clear HO_0; clear HB; clear HK; have HO_0 := n0_; have HB := n1_; have HK := n2_; clear n0_ n1_ n2_; clear hg hw hp_))
          (first | go_roundg k1 | ((try simp only [add_plain] at *); go_roundg k1))
          case measure => have := HK1.out; omega
          case rel => exact ⟨(y413), (wrap64 (x1_1 + 1)), (wrap64 (x5_1 + 1)), qB83, qB83, H', ⟨by have := HK1.out; omega⟩, ⟨by (with_reducible repeat (first | apply Kd.R_alloc | apply Kd.R_drewN | apply Kd.R_drew)); exact HO_0.out⟩, ⟨by repeat (first | (with_reducible first | exact HK.out | apply Kept.alloc | apply Kept.drewN | apply Kept.drew) | exact HK.out)⟩, ⟨by repeat (first | (with_reducible first | exact HB.out | apply below_alloc | apply pw_below_drewN | apply below_drew1) | exact HB.out)⟩⟩
        · rw [if_neg c4] at H
          exact absurd H (by simp)
      · rw [if_neg c3] at H
        have c3b0 : decide (x5_1 < (x0_1.length : Int)) = false := decide_eq_false c3
        clear c3
        simp only [Option.some.injEq, Prod.mk.injEq] at H
        obtain ⟨rfl, rfl⟩ := H
        obtain ⟨Ao9, co9, eo9⟩ := Kd.R_slice HO_0.out
        subst eo9
        go_wp2
        go_ret
        exact ⟨by first | rfl | (simp [errW_none, errW_some] <;> rfl) | (simp [*, errW_none, errW_some] <;> rfl), by (with_reducible repeat (first | apply Kd.R_alloc | apply Kd.R_drewN | apply Kd.R_drew)); exact HO_0.out, by repeat (first | (with_reducible first | exact HB.out | apply below_alloc | apply pw_below_drewN | apply below_drew1) | exact HB.out), by repeat (first | (with_reducible first | exact HK.out | apply Kept.alloc | apply Kept.drewN | apply Kept.drew) | exact HK.out)⟩

/-! ### laws_markCycloS: function 17 -/
-- HAND
def nMark : List Int → Int → Int × List Int
  | [], a => (a, [])
  | _ :: l, a => ((nMark l (wrap64 (a + 1))).1, a :: (nMark l (wrap64 (a + 1))).2)
def nMarkS : List (List Int) → Int → Int × List (List Int)
  | [], a => (a, [])
  | x :: l, a => ((nMarkS l (nMark x a).1).1, (nMark x a).2 :: (nMarkS l (nMark x a).1).2)
theorem nMark_l0 : ∀ (rest done : List Int) (a : Int), done.length + rest.length ≤ 9223372036854775806 → ∃ k, laws_markInt64S.l0 k (done ++ rest) a (done.length : Int) = some ((nMark rest a).1, done ++ (nMark rest a).2)
  | [], done, a, h => ⟨1, by simp only [laws_markInt64S.l0]; rw [if_neg (by simp)]; simp [nMark]⟩
  | x :: rest, done, a, h => by
    simp only [List.length_cons] at h
    obtain ⟨k, hk⟩ := nMark_l0 rest (done ++ [a]) (wrap64 (a + 1)) (by simp; omega)
    refine ⟨k + 1, ?_⟩
    simp only [laws_markInt64S.l0]
    rw [if_pos (by simp; omega), if_pos (by omega)]
    have e1 : (done ++ x :: rest).set ((done.length : Nat) : Int).toNat a = done ++ [a] ++ rest := by simp
    have e2 : wrap64 ((done.length : Int) + 1) = ((done ++ [a]).length : Int) := by rw [wrap64]; simp; omega
    rw [e1, e2, hk]
    simp [nMark]
theorem nMark_f (l : List Int) (a : Int) (h : l.length ≤ 9223372036854775806) : ∃ k, laws_markInt64S.f k l a = some (nMark l a) := by
  obtain ⟨k, hk⟩ := nMark_l0 l [] a (by simpa using h)
  exact ⟨k, by simpa [laws_markInt64S.f] using hk⟩

def nMarkC : List S43 → Int → Int × List S43
  | [], a => (a, [])
  | x :: l, a => ((nMarkC l (nMark x.f1 (wrap64 (a + 1))).1).1, ⟨a, (nMark x.f1 (wrap64 (a + 1))).2⟩ :: (nMarkC l (nMark x.f1 (wrap64 (a + 1))).1).2)
set_option maxHeartbeats 4000000 in
theorem nMarkC_calls (w0 w : World) (ok : Nat → Prop) (u : Value) (l : List S43) (a : Int) (hB : Below w0.heap.size w0 w) (ho : Kd.S k43 43 w w0.heap.size ok u l) (hl : l.length ≤ 1000000) (hr : ∀ x ∈ l, x.f1.length ≤ 1000000) :
    Calls Try.prog 17 #[u, .int .i64 a] w fun e w' => e = .returned (.int .i64 (nMarkC l a).1) ∧ Kd.S k43 43 w' w0.heap.size ok u (nMarkC l a).2 ∧ Below w0.heap.size w0 w' ∧ Kept w w' ok := by
  have HO := Aside0.mk ho
  have HB := Aside0.mk hB
  have HL := Aside0.mk hl
  have HR := Aside0.mk hr
  obtain ⟨A, c, rfl⟩ := Kd.S_slice ho
  clear ho hB hl hr
  go_enter Try.func17, Try.ntmps17
  go_wp2
  go_loopg [1, 5] (l.length + 1) (fun kq v1 v5 w' => ∃ (done rest : List S43) (b : Int), v1 = .int .i64 b ∧ v5 = .int .i64 (done.length : Int) ∧ Aside0 (kq = rest.length + 1) ∧ Aside0 (done.length + rest.length = l.length) ∧ Aside0 (∀ x ∈ rest, x.f1.length ≤ 1000000) ∧ Aside0 (nMarkC l a = ((nMarkC rest b).1, done ++ (nMarkC rest b).2)) ∧ Aside0 (Kd.S k43 43 w' w0.heap.size ok (.slice A l.length c) (done ++ rest)) ∧ Aside0 (Below w0.heap.size w0 w') ∧ Aside0 (Kept w w' ok))
  case atStart => exact ⟨[], l, a, rfl, rfl, ⟨rfl⟩, ⟨by simp⟩, ⟨HR.out⟩, ⟨by simp⟩, ⟨by simpa using HO.out⟩, ⟨HB.out⟩, ⟨Kept.refl _ _⟩⟩
  case round =>
    obtain ⟨done, rest, b, rfl, rfl, HK, HN, HR2, HE, HS, HB2, HP⟩ := hrel
    cases rest with
    | nil =>
      have hd : done.length = l.length := by have := HN.out; simpa using this
      have c0 : decide ((done.length : Int) < (l.length : Int)) = false := by rw [hd]; simp
      go_wp2
      go_ret
      have e := HE.out
      simp only [nMarkC, List.append_nil] at e
      rw [e]
      exact ⟨rfl, by simpa using HS.out, HB2.out, HP.out⟩
    | cons x rest =>
      have hn : done.length + (rest.length + 1) = l.length := by have := HN.out; simpa using this
      have c0 : decide ((done.length : Int) < (l.length : Int)) = true := by simp; omega
      have hlen : (done ++ x :: rest).length = l.length := by simp; omega
      obtain ⟨g, cap, e1, hg0, hg1, _⟩ := Kd.S_form HS.out (by simp; omega)
      rw [hlen] at e1
      injection e1 with eA _ ec
      subst eA ec
      have hS := HS.out
      -- the number of the element
      obtain ⟨oki, cs, hcl, hM, hcc, hfz, hoki, hH⟩ := Kd.S_elem hS z43 (done.length : Int) (by omega) (by omega)
      have hx : (done ++ x :: rest).getD (done.length : Int).toNat z43 = x := by simp
      rw [hx] at hM
      obtain ⟨v1, rfl, hv1⟩ := k43_openM hM
      have hst := Kd.S_seg (okg := fun _ => False) (okp := oki) (x' := (⟨b, x.f1⟩ : S43)) (seg := [.int .i64 b]) (j := 0) (Kd.H_mono hH (fun k hk => ⟨hk, fun h => h⟩)) (by omega) (by omega) (by show 0 + 1 ≤ 2; omega) (by exact ⟨[.int .i64 b], [v1], rfl, rfl, ⟨v1, rfl, hv1⟩⟩) (fun k hk => .inl hk) (fun k hk => hk.elim)
      have e0 : (done ++ x :: rest).set (done.length : Int).toNat (⟨b, x.f1⟩ : S43) = done ++ (⟨b, x.f1⟩ : S43) :: rest := by simp
      have hsz : k43.sz = 2 := rfl
      rw [e0, hsz, Int.toNat_natCast, Nat.add_zero] at hst
      have hcell := hcc 0 _ rfl
      rw [hsz, Int.toNat_natCast, Nat.add_zero] at hcell
      have hfr := hfz 0
      rw [hsz, Int.toNat_natCast, Nat.add_zero] at hfr
      have hone : wr.setCells g (done.length * 2) [.int .i64 b] = wr.setCell ⟨g, done.length * 2, none⟩ (.int .i64 b) := by simp [World.setCells]
      rw [hone] at hst
      have hcell2 : wr.cell? ((⟨g, 0, none⟩ : Addr).add (done.length * 2)) = some (.int .i64 x.f0) := by rw [add_plain]; simpa using hcell
      have HST := Aside0.mk hst
      have p5 : (0 : Int) ≤ (done.length : Int) := by omega
      have q5 : (done.length : Int) < (l.length : Int) := by omega
      clear hst hM hv1 hcc hH hS hone hfz hoki
      have hlen8 : (done ++ (⟨b, x.f1⟩ : S43) :: rest).length = l.length := by simp; omega
      have hx8 : (done ++ (⟨b, x.f1⟩ : S43) :: rest).getD (done.length : Int).toNat z43 = ⟨b, x.f1⟩ := by simp
      obtain ⟨k1, hk1⟩ := nMark_f x.f1 (wrap64 (b + 1)) (by have := HR2.out x (by simp); omega)
      have HK1 := Aside0.mk hk1
      have HG0 := Aside0.mk hg0
      clear hk1 hg0 hcl
      go_wp2_with (first
        | ((with_reducible refine gate_store (t := 2) (p := 16) rfl ?_); refine store_event (t := 2) (p := 16) (v := ?vo_w8) (w1 := (wr.setCell ⟨g, done.length * 2, none⟩ (.int .i64 b))) ?hg ?ho ?hn ?hr ?_; (case ho => rfl); (case hg => rfl); (case hn => rfl); (case hr => first | (go_simp; done) | (go_simp; rfl)); intro w8 hw; have hs8 : Kd.S k43 43 w8 w0.heap.size ok (.slice (some ⟨g, 0, none⟩) l.length c) (done ++ (⟨b, x.f1⟩ : S43) :: rest) := (by rw [hw]; exact HST.out.1); have hg8 : wr.grownBy w8 (some g) := (by rw [hw]; exact HST.out.2); have HB8 := Aside0.mk ((by rw [hw]; exact below_set HB2.out HG0.out : Below w0.heap.size w0 w8)); have HP8 := Aside0.mk (Kept.of_grown (S := ok) hg8 HP.out (fun k e => .inl (by injection e with e; subst e; exact (Kd.S_R HS.out).1 _ rfl))); obtain ⟨oki2, cs2, hcl2, hM2, hcc2, hoki2, hH2⟩ := Kd.S_lend hs8 z43 (done.length : Int) p5 q5; rw [hx8] at hM2; obtain ⟨v2, rfl, hv2⟩ := k43_openM hM2; have hc8 := hcc2 1 _ rfl; rw [hsz, Int.toNat_natCast] at hc8; obtain ⟨A1, c1, rfl⟩ := Kd.R_slice hv2; have HV := Aside0.mk hv2; have HH := Aside0.mk hH2; have HO2 := Aside0.mk hoki2; clear hv2 hH2 hoki2 hM2 hcc2 hcl2 hs8 hg8 hw)
        | (go_at_call 11; refine (laws_markInt64S.calls k1 oki2 (.slice A1 x.f1.length c1) x.f1 (wrap64 (b + 1)) (nMark x.f1 (wrap64 (b + 1))).1 (nMark x.f1 (wrap64 (b + 1))).2 w0 _ HB8.out HV.out HK1.out).mono ?_; rintro e w' ⟨rfl, h1_, h2_, h3_⟩; have HV2 := Aside0.mk h1_; have HB3 := Aside0.mk h2_; have HP3 := Aside0.mk h3_; clear h1_ h2_ h3_))
      go_roundg (gk - 1)
      case measure => have := HK.out; simp only [List.length_cons] at this; omega
      case rel =>
        have hH2 := Kd.H_step HH.out (fun k hk hn hlt => HP3.out.2 k hlt hn)
        have hS2 := Kd.H_back hH2 (x' := (⟨b, (nMark x.f1 (wrap64 (b + 1))).2⟩ : S43)) (okp := oki2) ⟨[.int .i64 b], [.slice A1 x.f1.length c1], rfl, rfl, ⟨_, rfl, Kd.R_mono (Kd.R_tight rfl HV2.out) (fun k hk => HV.out.1 k hk.symm)⟩⟩ (fun k hk => hk)
        have e2 : (done ++ (⟨b, x.f1⟩ : S43) :: rest).set (done.length : Int).toNat (⟨b, (nMark x.f1 (wrap64 (b + 1))).2⟩ : S43) = (done ++ [(⟨b, (nMark x.f1 (wrap64 (b + 1))).2⟩ : S43)]) ++ rest := by simp
        rw [e2] at hS2
        refine ⟨done ++ [(⟨b, (nMark x.f1 (wrap64 (b + 1))).2⟩ : S43)], rest, (nMark x.f1 (wrap64 (b + 1))).1, rfl, by rw [wrap64]; simp; have := HL.out; omega, ⟨by have := HK.out; simp only [List.length_cons] at this; omega⟩, ⟨by simp; omega⟩, ⟨fun y hy => HR2.out y (List.mem_cons_of_mem _ hy)⟩, ⟨by rw [HE.out]; simp [nMarkC]⟩, ⟨hS2⟩, ⟨HB3.out⟩, ⟨?_⟩⟩
        exact HP8.out.then_ HP3.out (fun k hk => .inl (HO2.out k hk).1)
def laws_markCycloS.f (l0 : List (S43)) (a1 : Int) : Option (Int) := if l0.length ≤ 1000000 ∧ l0.all (fun x => decide (x.f1.length ≤ 1000000)) then some (nMarkC l0 a1).1 else none

/-! ### laws_heldInt64S: function 12 -/
def laws_heldInt64S.l0 : Nat → List Int → Int → Int → Option (Int)
  | 0, _, _, _ => none
  | k + 1, x0, x1, x5 => if x5 < (x0.length : Int) then (if 0 ≤ x5 then (if (rd x0 x5) = x1 then (laws_heldInt64S.l0 k x0 (wrap64 (x1 + 1)) (wrap64 (x5 + 1))) else (some (-1))) else (none)) else (some x1)
def laws_heldInt64S.f (k : Nat) (l0 : List Int) (a1 : Int) : Option (Int) := laws_heldInt64S.l0 k l0 a1 0
theorem laws_heldInt64S.mono_l : ∀ k, (∀ y0 y1 y2, LeO (laws_heldInt64S.l0 k y0 y1 y2) (laws_heldInt64S.l0 (k + 1) y0 y1 y2))
  | 0 => fun _ _ _ r h => by simp [laws_heldInt64S.l0] at h
  | k + 1 => by
    have ih0 := laws_heldInt64S.mono_l k
    · intro y0 y1 y2
      unfold laws_heldInt64S.l0
      repeat' first
      | (with_reducible exact ih0 _ _ _)
      | (with_reducible exact LeO.refl _)
      | (with_reducible exact LeO.none _)
      | (with_reducible refine LeO.ite ?_ ?_)
      | (with_reducible refine LeO.bind ?_ (fun _ => ?_))
      | exact ih0 _ _ _
      | exact LeO.none _
      | refine LeO.ite ?_ ?_
      | refine LeO.bind ?_ (fun _ => ?_)
theorem laws_heldInt64S.mono : ∀ a0 a1 k, LeO (laws_heldInt64S.f k a0 a1) (laws_heldInt64S.f (k + 1) a0 a1) := by
  intro a0 a1 k
  have ih0 := laws_heldInt64S.mono_l k
  unfold laws_heldInt64S.f
  repeat' first
      | (with_reducible exact ih0 _ _ _)
      | (with_reducible exact LeO.refl _)
      | (with_reducible exact LeO.none _)
      | (with_reducible refine LeO.ite ?_ ?_)
      | (with_reducible refine LeO.bind ?_ (fun _ => ?_))
      | exact ih0 _ _ _
      | exact LeO.none _
      | refine LeO.ite ?_ ?_
      | refine LeO.bind ?_ (fun _ => ?_)
set_option maxHeartbeats 8000000 in
set_option maxRecDepth 100000 in
theorem laws_heldInt64S.calls (k : Nat) (A0 : Option Addr) (c0 : Nat) (l0 : List Int) (a1 : Int) (r : Int) (w : World) (hr0 : Kd.C (Kd.int .i64) w A0 l0.length l0) (hc0 : l0.length ≤ c0) (h : laws_heldInt64S.f k l0 a1 = some r) :
    Calls Try.prog 12 #[.slice A0 l0.length c0, .int .i64 a1] w fun e w' => e = .returned (.int .i64 r) ∧ Drawn0 w w' := by
  have HR0 := Aside0.mk hr0
  have HC0 := Aside0.mk hc0
  clear hr0 hc0
  have H : (laws_heldInt64S.l0 k l0 a1 0) = some r := h
  clear h
  have H' := Aside0.mk H
  clear H
  go_enter Try.func12, Try.ntmps12
  go_wp2
  try simp only [Act.put, List.setIfInBounds_toArray, List.set_cons_succ, List.set_cons_zero]
  go_loopg [1, 5] k (fun kq v1 v5 w' => ∃ (x1_1 : Int) (x5_1 : Int), v1 = .int .i64 x1_1 ∧ v5 = .int .i64 x5_1 ∧ Aside0 (laws_heldInt64S.l0 kq l0 x1_1 x5_1 = some r) ∧ Aside0 (kq ≤ k) ∧ Drawn0 w w')
  case atStart => exact ⟨(a1), (0), qB83, qB83, H', ⟨Nat.le_refl _⟩, by repeat (first | exact Drawn0.refl _ | apply Drawn0.step)⟩
  case round =>
    clear H'
    try clear c1
    try clear p2
    obtain ⟨x1_1, x5_1, rfl, rfl, HA, HK1, ⟨m1, rfl⟩⟩ := hrel
    cases gk with
    | zero => exact absurd HA.out (by simp [laws_heldInt64S.l0])
    | succ k1 =>
      have H := HA.out
      clear HA
      simp only [laws_heldInt64S.l0] at H
      by_cases c3 : x5_1 < (l0.length : Int)
      · rw [if_pos c3] at H
        have c3b0 : decide (x5_1 < (l0.length : Int)) = true := decide_eq_true c3
        clear c3
        by_cases c4 : 0 ≤ x5_1
        · rw [if_pos c4] at H
          have c4b0 : decide (0 ≤ x5_1) = true := decide_eq_true c4
          clear c4
          by_cases c5 : (rd l0 x5_1) = x1_1
          · rw [if_pos c5] at H
            have c5b0 : ((rd l0 x5_1) == x1_1) = true := beq_iff_eq.mpr c5
            have c5b1 : ((rd l0 x5_1) != x1_1) = false := bne_eq_false_iff_eq.mpr c5
            clear c5
            have H' := Aside0.mk H
            clear H
            have p414 : 0 ≤ (x5_1 : Int) := of_decide_eq_true qB82
            have q414 : x5_1 < (l0.length : Int) := of_decide_eq_true qB82
            obtain ⟨ad414, e414, hx414_0⟩ := Kd.at_int HR0.out x5_1 p414 q414
            cases e414
            replace p414 := eq_true p414
            replace q414 := eq_true q414
            go_wp2
            (first | go_roundg k1 | ((try simp only [add_plain] at *); go_roundg k1))
            case measure => have := HK1.out; omega
            case rel => exact ⟨(wrap64 (x1_1 + 1)), (wrap64 (x5_1 + 1)), qB83, qB83, H', ⟨by have := HK1.out; omega⟩, by repeat (first | exact Drawn0.refl _ | apply Drawn0.step)⟩
          · rw [if_neg c5] at H
            have c5b0 : ((rd l0 x5_1) == x1_1) = false := beq_eq_false_iff_ne.mpr c5
            have c5b1 : ((rd l0 x5_1) != x1_1) = true := bne_iff_ne.mpr c5
            obtain rfl := Option.some.inj H
            have p414 : 0 ≤ (x5_1 : Int) := of_decide_eq_true qB82
            have q414 : x5_1 < (l0.length : Int) := of_decide_eq_true qB82
            obtain ⟨ad414, e414, hx414_0⟩ := Kd.at_int HR0.out x5_1 p414 q414
            cases e414
            replace p414 := eq_true p414
            replace q414 := eq_true q414
            go_wp2
            go_ret
            exact ⟨by first | rfl | (simp; done) | (simp [*]; done), by repeat (first | exact Drawn0.refl _ | apply Drawn0.step)⟩
        · rw [if_neg c4] at H
          exact absurd H (by simp)
      · rw [if_neg c3] at H
        have c3b0 : decide (x5_1 < (l0.length : Int)) = false := decide_eq_false c3
        clear c3
        obtain rfl := Option.some.inj H
        go_wp2
        go_ret
        exact ⟨by first | rfl | (simp; done) | (simp [*]; done), by repeat (first | exact Drawn0.refl _ | apply Drawn0.step)⟩

/-! ### laws_heldCycloS: function 18 -/
def laws_heldCycloS.l0 : Nat → List (S43) → Int → Int → Option (Int)
  | 0, _, _, _ => none
  | k + 1, x0, x1, x5 => if x5 < (x0.length : Int) then (if 0 ≤ x5 then (if ((rd_T43 x0 x5).f0) = x1 then ((laws_heldInt64S.f k ((rd_T43 x0 x5).f1) (wrap64 (x1 + 1))).bind fun t417 => (if t417 < 0 then (some (-1)) else (laws_heldCycloS.l0 k x0 t417 (wrap64 (x5 + 1))))) else (some (-1))) else (none)) else (some x1)
def laws_heldCycloS.f (k : Nat) (l0 : List (S43)) (a1 : Int) : Option (Int) := laws_heldCycloS.l0 k l0 a1 0
theorem laws_heldCycloS.mono_l : ∀ k, (∀ y0 y1 y2, LeO (laws_heldCycloS.l0 k y0 y1 y2) (laws_heldCycloS.l0 (k + 1) y0 y1 y2))
  | 0 => fun _ _ _ r h => by simp [laws_heldCycloS.l0] at h
  | k + 1 => by
    have ih0 := laws_heldCycloS.mono_l k
    · intro y0 y1 y2
      unfold laws_heldCycloS.l0
      repeat' first
      | (with_reducible exact ih0 _ _ _)
      | (with_reducible exact laws_heldInt64S.mono _ _ _)
      | (with_reducible exact LeO.refl _)
      | (with_reducible exact LeO.none _)
      | (with_reducible refine LeO.ite ?_ ?_)
      | (with_reducible refine LeO.bind ?_ (fun _ => ?_))
      | exact ih0 _ _ _
      | exact laws_heldInt64S.mono _ _ _
      | exact LeO.none _
      | refine LeO.ite ?_ ?_
      | refine LeO.bind ?_ (fun _ => ?_)
theorem laws_heldCycloS.mono : ∀ a0 a1 k, LeO (laws_heldCycloS.f k a0 a1) (laws_heldCycloS.f (k + 1) a0 a1) := by
  intro a0 a1 k
  have ih0 := laws_heldCycloS.mono_l k
  unfold laws_heldCycloS.f
  repeat' first
      | (with_reducible exact ih0 _ _ _)
      | (with_reducible exact laws_heldInt64S.mono _ _ _)
      | (with_reducible exact LeO.refl _)
      | (with_reducible exact LeO.none _)
      | (with_reducible refine LeO.ite ?_ ?_)
      | (with_reducible refine LeO.bind ?_ (fun _ => ?_))
      | exact ih0 _ _ _
      | exact laws_heldInt64S.mono _ _ _
      | exact LeO.none _
      | refine LeO.ite ?_ ?_
      | refine LeO.bind ?_ (fun _ => ?_)
set_option maxHeartbeats 8000000 in
set_option maxRecDepth 100000 in
theorem laws_heldCycloS.calls (k : Nat) (A0 : Option Addr) (c0 : Nat) (l0 : List (S43)) (a1 : Int) (r : Int) (w : World) (hr0 : Kd.C k43 w A0 l0.length l0) (hc0 : l0.length ≤ c0) (h : laws_heldCycloS.f k l0 a1 = some r) :
    Calls Try.prog 18 #[.slice A0 l0.length c0, .int .i64 a1] w fun e w' => e = .returned (.int .i64 r) ∧ Drawn0 w w' := by
  have HR0 := Aside0.mk hr0
  have HC0 := Aside0.mk hc0
  clear hr0 hc0
  have H : (laws_heldCycloS.l0 k l0 a1 0) = some r := h
  clear h
  have H' := Aside0.mk H
  clear H
  go_enter Try.func18, Try.ntmps18
  go_wp2
  try simp only [Act.put, List.setIfInBounds_toArray, List.set_cons_succ, List.set_cons_zero]
  go_loopg [1, 5] k (fun kq v1 v5 w' => ∃ (x1_1 : Int) (x5_1 : Int), v1 = .int .i64 x1_1 ∧ v5 = .int .i64 x5_1 ∧ Aside0 (laws_heldCycloS.l0 kq l0 x1_1 x5_1 = some r) ∧ Aside0 (kq ≤ k) ∧ Drawn0 w w')
  case atStart => exact ⟨(a1), (0), qB83, qB83, H', ⟨Nat.le_refl _⟩, by repeat (first | exact Drawn0.refl _ | apply Drawn0.step)⟩
  case round =>
    clear H'
    try clear c1
    try clear p2
    obtain ⟨x1_1, x5_1, rfl, rfl, HA, HK1, ⟨m1, rfl⟩⟩ := hrel
    cases gk with
    | zero => exact absurd HA.out (by simp [laws_heldCycloS.l0])
    | succ k1 =>
      have H := HA.out
      clear HA
      simp only [laws_heldCycloS.l0] at H
      by_cases c3 : x5_1 < (l0.length : Int)
      · rw [if_pos c3] at H
        have c3b0 : decide (x5_1 < (l0.length : Int)) = true := decide_eq_true c3
        clear c3
        by_cases c4 : 0 ≤ x5_1
        · rw [if_pos c4] at H
          have c4b0 : decide (0 ≤ x5_1) = true := decide_eq_true c4
          clear c4
          by_cases c5 : ((rd_T43 l0 x5_1).f0) = x1_1
          · rw [if_pos c5] at H
            have c5b0 : (((rd_T43 l0 x5_1).f0) == x1_1) = true := beq_iff_eq.mpr c5
            have c5b1 : (((rd_T43 l0 x5_1).f0) != x1_1) = false := bne_eq_false_iff_eq.mpr c5
            clear c5
            replace H := Option.bind_eq_some_iff.mp H
            obtain ⟨t417, A60, H⟩ := H
            replace H : (if t417 < 0 then (some (-1)) else (laws_heldCycloS.l0 k1 l0 t417 (wrap64 (x5_1 + 1)))) = some r := H
            have A6 := Aside0.mk A60
            clear A60
            by_cases c7 : t417 < 0
            · rw [if_pos c7] at H
              have c7b0 : decide (t417 < 0) = true := decide_eq_true c7
              clear c7
              obtain rfl := Option.some.inj H
              have p415 : 0 ≤ (x5_1 : Int) := of_decide_eq_true qB82
              have q415 : x5_1 < (l0.length : Int) := of_decide_eq_true qB82
              obtain ⟨ad415, A415_1, c415_1, e415, hx415_0, hx415_1, hl415_1, hi415_1⟩ := at_T43 HR0.out x5_1 p415 q415
              cases e415
              have HR415_1 := Aside0.mk hi415_1
              have HC415_1 := Aside0.mk hl415_1
              clear hi415_1 hl415_1
              replace p415 := eq_true p415
              replace q415 := eq_true q415
              have p416 : 0 ≤ (x5_1 : Int) := of_decide_eq_true qB82
              have q416 : x5_1 < (l0.length : Int) := of_decide_eq_true qB82
              obtain ⟨ad416, A416_1, c416_1, e416, hx416_0, hx416_1, hl416_1, hi416_1⟩ := at_T43 HR0.out x5_1 p416 q416
              obtain rfl : ad415 = ad416 := (by injection e416)
              have HR416_1 := Aside0.mk hi416_1
              have HC416_1 := Aside0.mk hl416_1
              clear hi416_1 hl416_1
              replace p416 := eq_true p416
              replace q416 := eq_true q416
              have ea_ := Option.some.inj (hx415_1.symm.trans hx416_1)
              injection ea_ with ea_ en_ ec_
              subst ea_
              subst ec_
              clear en_
              go_wp2_with (first | ((with_reducible refine gate_callee (f := 12) rfl ?_); refine goesL_ (some 27) rfl rfl Try.func12 (by kernel_rfl) rfl #[.slice A415_1 ((rd_T43 l0 x5_1).f1).length c415_1, .int .i64 (wrap64 (x1_1 + 1))] rfl qB32 ?_; (with_reducible refine (laws_heldInt64S.calls k1 _ _ ((rd_T43 l0 x5_1).f1) (wrap64 (x1_1 + 1)) t417 _ ?side1 ?side2 A6.out).mono ?_); (case side1 => repeat (first | exact HR416_1.out | (with_reducible refine Kd.C_alloc ?_ _) | (with_reducible refine Kd.C_drewN ?_ _) | (with_reducible refine Kd.C_drew ?_))); (case side2 => exact HC416_1.out); rintro e w' ⟨rfl, ⟨nd, rfl⟩⟩; refine ⟨_, rfl, ?_⟩))
              go_ret
              exact ⟨by first | rfl | (simp; done) | (simp [*]; done), by repeat (first | exact Drawn0.refl _ | apply Drawn0.step)⟩
            · rw [if_neg c7] at H
              have c7b0 : decide (t417 < 0) = false := decide_eq_false c7
              clear c7
              have H' := Aside0.mk H
              clear H
              have p415 : 0 ≤ (x5_1 : Int) := of_decide_eq_true qB82
              have q415 : x5_1 < (l0.length : Int) := of_decide_eq_true qB82
              obtain ⟨ad415, A415_1, c415_1, e415, hx415_0, hx415_1, hl415_1, hi415_1⟩ := at_T43 HR0.out x5_1 p415 q415
              cases e415
              have HR415_1 := Aside0.mk hi415_1
              have HC415_1 := Aside0.mk hl415_1
              clear hi415_1 hl415_1
              replace p415 := eq_true p415
              replace q415 := eq_true q415
              have p416 : 0 ≤ (x5_1 : Int) := of_decide_eq_true qB82
              have q416 : x5_1 < (l0.length : Int) := of_decide_eq_true qB82
              obtain ⟨ad416, A416_1, c416_1, e416, hx416_0, hx416_1, hl416_1, hi416_1⟩ := at_T43 HR0.out x5_1 p416 q416
              obtain rfl : ad415 = ad416 := (by injection e416)
              have HR416_1 := Aside0.mk hi416_1
              have HC416_1 := Aside0.mk hl416_1
              clear hi416_1 hl416_1
              replace p416 := eq_true p416
              replace q416 := eq_true q416
              have ea_ := Option.some.inj (hx415_1.symm.trans hx416_1)
              injection ea_ with ea_ en_ ec_
              subst ea_
              subst ec_
              clear en_
              go_wp2_with (first | ((with_reducible refine gate_callee (f := 12) rfl ?_); refine goesL_ (some 27) rfl rfl Try.func12 (by kernel_rfl) rfl #[.slice A415_1 ((rd_T43 l0 x5_1).f1).length c415_1, .int .i64 (wrap64 (x1_1 + 1))] rfl qB32 ?_; (with_reducible refine (laws_heldInt64S.calls k1 _ _ ((rd_T43 l0 x5_1).f1) (wrap64 (x1_1 + 1)) t417 _ ?side1 ?side2 A6.out).mono ?_); (case side1 => repeat (first | exact HR416_1.out | (with_reducible refine Kd.C_alloc ?_ _) | (with_reducible refine Kd.C_drewN ?_ _) | (with_reducible refine Kd.C_drew ?_))); (case side2 => exact HC416_1.out); rintro e w' ⟨rfl, ⟨nd, rfl⟩⟩; refine ⟨_, rfl, ?_⟩))
              (first | go_roundg k1 | ((try simp only [add_plain] at *); go_roundg k1))
              case measure => have := HK1.out; omega
              case rel => exact ⟨(t417), (wrap64 (x5_1 + 1)), qB83, qB83, H', ⟨by have := HK1.out; omega⟩, by repeat (first | exact Drawn0.refl _ | apply Drawn0.step)⟩
          · rw [if_neg c5] at H
            have c5b0 : (((rd_T43 l0 x5_1).f0) == x1_1) = false := beq_eq_false_iff_ne.mpr c5
            have c5b1 : (((rd_T43 l0 x5_1).f0) != x1_1) = true := bne_iff_ne.mpr c5
            obtain rfl := Option.some.inj H
            have p415 : 0 ≤ (x5_1 : Int) := of_decide_eq_true qB82
            have q415 : x5_1 < (l0.length : Int) := of_decide_eq_true qB82
            obtain ⟨ad415, A415_1, c415_1, e415, hx415_0, hx415_1, hl415_1, hi415_1⟩ := at_T43 HR0.out x5_1 p415 q415
            cases e415
            have HR415_1 := Aside0.mk hi415_1
            have HC415_1 := Aside0.mk hl415_1
            clear hi415_1 hl415_1
            replace p415 := eq_true p415
            replace q415 := eq_true q415
            go_wp2
            go_ret
            exact ⟨by first | rfl | (simp; done) | (simp [*]; done), by repeat (first | exact Drawn0.refl _ | apply Drawn0.step)⟩
        · rw [if_neg c4] at H
          exact absurd H (by simp)
      · rw [if_neg c3] at H
        have c3b0 : decide (x5_1 < (l0.length : Int)) = false := decide_eq_false c3
        clear c3
        obtain rfl := Option.some.inj H
        go_wp2
        go_ret
        exact ⟨by first | rfl | (simp; done) | (simp [*]; done), by repeat (first | exact Drawn0.refl _ | apply Drawn0.step)⟩

/-! ### laws_markCS_A: function 157 -/
-- HAND
def laws_markCS_A.f (l0 : List (S43)) (a1 : Int) : Option ((List (S43))) := if l0.length ≤ 1000000 ∧ l0.all (fun x => decide (x.f1.length ≤ 1000000)) then some (nMarkC l0 a1).2 else none

/-! ### laws_markCS_B: function 158 -/
-- HAND
def laws_markCS_B.f (l0 : List (S43)) (a1 : Int) : Option (Int) := if l0.length ≤ 1000000 ∧ l0.all (fun x => decide (x.f1.length ≤ 1000000)) then some (nMarkC l0 a1).1 else none

end Go.Proofs.Ythdpdiahkphklab.PFnExactJacobiRow
