/- The functions that the law reaches, as plain functions, each with the proof that the program comes to it; no condition. Written by a program of this session (wip/mp.py) over the printing of the kit; what is marked HAND is told by hand. -/
import Derived.Test.YtejpliodhnglbaaPFnExactPrimesOfNormx0
import Derived.Test.YtejpliodhnglbaaPFnExactPrimesOfNormx1
namespace Go.Proofs.Ytejpliodhnglbaa.PFnExactPrimesOfNorm
open Go.RowKit Go.Proofs.YtejpliodhnglbaaW.PrintWords Go.Proofs.YtejpliodhnglbaaW.PrintLast Go.Proofs.YtejpliodhnglbaaW.PrintMore
attribute [local go_sem] max2_int min2_int max_two min_two max_three min_three max_four min_four   -- for this text's walks alone
set_option linter.unusedVariables false
set_option linter.unusedSimpArgs false

/-! ### spec_PrimesOfNorm: function 18 -/
def spec_PrimesOfNorm.l0:Nat→List (S26)→List (S26)→Int→Option ((List (S26))×Int)
  |0,_,_,_=>none
  |k+1,x4,x5,x6=>if x6<(x4.length:Int) then (if 0≤x6 then ((spec_l09Prime.f k ((rd_T26 x4 x6).f0) ((rd_T26 x4 x6).f1)).bind fun t143=>(if t143=true then (if x5.length<4398046511104 then (spec_PrimesOfNorm.l0 k x4 (x5 ++ [(⟨(rd_T26 x4 x6).f0,(rd_T26 x4 x6).f1⟩:S26)]) (wrap64 (x6+1))) else (none)) else (spec_PrimesOfNorm.l0 k x4 x5 (wrap64 (x6+1))))) else (none)) else (some (x5,0))
def spec_PrimesOfNorm.f (k:Nat) (a0:Int):Option ((List (S26))×Int):=(spec_l01In.f a0 1 1000000).bind fun t135=>(if t135=true then ((spec_l09OfNorm.f k a0).bind fun t136=>(spec_PrimesOfNorm.l0 k t136 (([]:List (S26))) 0)) else (some (([]:List (S26)),2)))
theorem spec_PrimesOfNorm.mono_l:∀k,(∀y0 y1 y2,LeO (spec_PrimesOfNorm.l0 k y0 y1 y2) (spec_PrimesOfNorm.l0 (k+1) y0 y1 y2))
  |0=>fun _ _ _ r h=>by simp [spec_PrimesOfNorm.l0] at h
  |k+1=>by
    have ih0:=spec_PrimesOfNorm.mono_l k
    · intro y0 y1 y2
      unfold spec_PrimesOfNorm.l0;repeat' first
      |(with_reducible exact ih0 _ _ _)
      |(with_reducible exact spec_l09OfNorm.mono _ _)
      |(with_reducible exact spec_l09Prime.mono _ _ _)
      |(with_reducible exact LeO.refl _)
      |(with_reducible exact LeO.none _)
      |(with_reducible refine LeO.ite ?_ ?_)
      |(with_reducible refine LeO.bind ?_ (fun _=>?_))
      |exact ih0 _ _ _
      |exact spec_l09OfNorm.mono _ _
      |exact spec_l09Prime.mono _ _ _
      |exact LeO.none _
      |refine LeO.ite ?_ ?_
      |refine LeO.bind ?_ (fun _=>?_)
theorem spec_PrimesOfNorm.mono:∀a0 k,LeO (spec_PrimesOfNorm.f k a0) (spec_PrimesOfNorm.f (k+1) a0):=by
  intro a0 k;have ih0:=spec_PrimesOfNorm.mono_l k;unfold spec_PrimesOfNorm.f;repeat' first
      |(with_reducible exact ih0 _ _ _)
      |(with_reducible exact spec_l09OfNorm.mono _ _)
      |(with_reducible exact spec_l09Prime.mono _ _ _)
      |(with_reducible exact LeO.refl _)
      |(with_reducible exact LeO.none _)
      |(with_reducible refine LeO.ite ?_ ?_)
      |(with_reducible refine LeO.bind ?_ (fun _=>?_))
      |exact ih0 _ _ _
      |exact spec_l09OfNorm.mono _ _
      |exact spec_l09Prime.mono _ _ _
      |exact LeO.none _
      |refine LeO.ite ?_ ?_
      |refine LeO.bind ?_ (fun _=>?_)
set_option maxHeartbeats 8000000 in
set_option maxRecDepth 100000 in
theorem spec_PrimesOfNorm.calls (k:Nat) (a0:Int) (r1:List (S26)) (r2:Int) (w:World) (h:spec_PrimesOfNorm.f k a0=some (r1,r2)):
    Calls Try.prog 18 #[.int .i64 a0] w fun e w'=>∃v0_:Value,e=.returned (.tuple #[v0_,.int .i64 r2])∧Kd.N k26 26 w' w.heap.size (fun k_=>(w.heap.size≤k_)) v0_ r1∧Below w.heap.size w w':=by
  have hu26:=Try.underlying26;have HB:=qAm (Below.refl w.heap.size w);have H:((spec_l01In.f a0 1 1000000).bind fun t135=>(if t135=true then ((spec_l09OfNorm.f k a0).bind fun t136=>(spec_PrimesOfNorm.l0 k t136 (([]:List (S26))) 0)) else (some (([]:List (S26)),2))))=some (r1,r2):=h;clear h;replace H:=qOb H;obtain⟨t135,A20,H⟩:=H;replace H:(if t135=true then ((spec_l09OfNorm.f k a0).bind fun t136=>(spec_PrimesOfNorm.l0 k t136 (([]:List (S26))) 0)) else (some (([]:List (S26)),2)))=some (r1,r2):=H;have A2:=qAm A20;clear A20
  by_cases c3:t135=true
  · subst c3
    have H1:((spec_l09OfNorm.f k a0).bind fun t136=>(spec_PrimesOfNorm.l0 k t136 (([]:List (S26))) 0))=some (r1,r2):=by rw [if_pos rfl] at H;exact H
    clear H;have H:=H1;clear H1;replace H:=qOb H;obtain⟨t136,A40,H⟩:=H;replace H:(spec_PrimesOfNorm.l0 k t136 (([]:List (S26))) 0)=some (r1,r2):=H;have A4:=qAm A40;clear A40;obtain⟨y139,hy139⟩:∃y_:List (S26),y_=(([]:List (S26))):=⟨_,rfl⟩
    replace H:(spec_PrimesOfNorm.l0 k t136 y139 0)=some (r1,r2):=by first|(rw [hy139];with_reducible exact H)|(have H2_:=(Option.bind_some _ _).symm.trans H;rw [hy139];with_reducible exact H2_)|(have H2_:=(Option.bind_some _ _).symm.trans H;with_reducible exact H2_)|with_reducible exact H|(rw [hy139];exact H)|exact H
    have Ny139:=qAm hy139;clear hy139;have H':=qAm H;clear H;go_enter Try.func18,Try.ntmps18;go_wp2_with (first|((with_reducible refine gate_callee (f:=46) rfl ?_);refine goesL_ (some 8) rfl rfl Try.func46 (by kernel_rfl) rfl #[.int .i64 a0,.int .i64 1,.int .i64 1000000] rfl qB15 ?_;(with_reducible refine(spec_l01In.calls a0 1 1000000 true _ A2.1).mono ?_);rintro e w' ⟨rfl,⟨nd,rfl⟩⟩;refine⟨_,rfl,?_⟩)|((with_reducible refine gate_callee (f:=47) rfl ?_);refine goesL_ (some 11) rfl rfl Try.func47 (by kernel_rfl) rfl #[.int .i64 a0] rfl qB15 ?_;(with_reducible refine(spec_l09OfNorm.calls k a0 t136 _ A4.1).mono ?_);rintro e w5 ⟨v137,rfl,ho0,hb⟩;refine⟨_,rfl,?_⟩;have n0_:=qAm (Kd.N_lower (Kd.N_mono (ok':=fun k_=>(w.heap.size≤k_)) (Kd.S_N (Kd.S_bound ho0)) (fun k_ hk_=>(Nat.le_trans (below_size qB16) hk_.2.1))) (below_size qB16));have n1_:=qAm (below_step qB16 hb);clear HB;have HO138:=n0_;have HB:=n1_;clear n0_ n1_;(try clear hb);(try clear hb2);(try clear hk);(try clear hi);(try clear ho0))|((with_reducible refine gate_dst (N:=12) rfl ?_);refine Kd.N_lit k26 _ 26 ?hg (N':=12) ?hd (xs:=([]:List (S26))) (inner:=[]) (ok:=(fun k_=>(w.heap.size≤k_)∧some k_≠(v137:Value).ownBlock)) (okp:=(fun k_=>(w.heap.size≤k_)∧some k_≠(v137:Value).ownBlock)) ?hr ?hp (fun _ hk=>hk) ((show ∀k_,w5.heap.size≤k_→(fun k_=>(w.heap.size≤k_)∧some k_≠(v137:Value).ownBlock) k_ from fun k_ hk=>⟨(Nat.le_trans (below_size qB16) hk),Kd.fresh' (Kd.N_lt qB24) k_ hk⟩) _ (Nat.le_refl _)) (Below.refl _ _) (Nat.le_refl _) (by simp) ?_;(case hd=>rfl);(case hg=>rfl);(case hr=>first|(go_simp;done)|(go_simp;rfl));(case hp=>exact(Reps.none _ _));intro v140 w6 ho7 hb hg_ hnew_;clear hg_ hnew_;(first|rw [← Ny139.1] at ho7|(simp only [Int.reduceToNat] at ho7;rw [← Ny139.1] at ho7));have n0_:=qAm (Kd.N_elder' qB24 (Kd.N_base ho7) hb);have n1_:=qAm (Kd.N_lower ho7 (below_size qB16));have n2_:=qAm (below_step qB16 hb);clear HO138;clear HB;have HO138:=n0_;have HO141:=n1_;have HB:=n2_;clear n0_ n1_ n2_;clear hb ho7));try simp only [Act.put,qSa,qSc,qSb]
    go_loopg [5,6] k (fun kq v5 v6 w'=>∃(x5_1:List (S26)) (x6_1:Int),v6=.int .i64 x6_1∧Aside0 (spec_PrimesOfNorm.l0 kq t136 x5_1 x6_1=some (r1,r2))∧Aside0 (kq≤k)∧Aside0 (Kd.N k26 26 w' w.heap.size (fun k_=>(w.heap.size≤k_)∧some k_≠(v5:Value).ownBlock) v137 t136)∧Aside0 (Kd.N k26 26 w' w.heap.size (fun k_=>(w.heap.size≤k_)∧some k_≠(v137:Value).ownBlock) v5 x5_1)∧Aside0 (Below w.heap.size w w'))
    case atStart=>exact⟨(y139),(0),qB37,H',⟨Nat.le_refl _⟩,⟨by (with_reducible repeat(first|apply Kd.N_alloc|apply Kd.N_drewN|apply Kd.N_drew));exact HO138.1⟩,⟨by (with_reducible repeat(first|apply Kd.N_alloc|apply Kd.N_drewN|apply Kd.N_drew));exact HO141.1⟩,⟨by repeat(first|(with_reducible first|exact HB.1|apply below_alloc|apply pw_below_drewN|apply below_drew1)|exact HB.1)⟩⟩
    case round=>
      clear H';try clear c1
      try clear p2
      try clear c3
      try clear c4
      obtain⟨x5_1,x6_1,rfl,HA,HK1,HO_4,HO_5,HB⟩:=hrel;cases gk with
      |zero=>exact absurd HA.1 (by simp [spec_PrimesOfNorm.l0])
      |succ k1=>
        have H:=HA.1;clear HA;simp only [spec_PrimesOfNorm.l0] at H
        by_cases c8:x6_1<(t136.length:Int)
        · rw [if_pos c8] at H
          have c8b0:decide (x6_1<(t136.length:Int))=true:=decide_eq_true c8;clear c8
          by_cases c9:0≤x6_1
          · rw [if_pos c9] at H
            have c9b0:decide (0≤x6_1)=true:=decide_eq_true c9;clear c9;replace H:=qOb H;obtain⟨t143,A100,H⟩:=H;replace H:(if t143=true then (if x5_1.length<4398046511104 then (spec_PrimesOfNorm.l0 k1 t136 (x5_1 ++ [(⟨(rd_T26 t136 x6_1).f0,(rd_T26 t136 x6_1).f1⟩:S26)]) (wrap64 (x6_1+1))) else (none)) else (spec_PrimesOfNorm.l0 k1 t136 x5_1 (wrap64 (x6_1+1))))=some (r1,r2):=H;have A10:=qAm A100;clear A100
            by_cases c11:t143=true
            · subst c11
              have H1:(if x5_1.length<4398046511104 then (spec_PrimesOfNorm.l0 k1 t136 (x5_1 ++ [(⟨(rd_T26 t136 x6_1).f0,(rd_T26 t136 x6_1).f1⟩:S26)]) (wrap64 (x6_1+1))) else (none))=some (r1,r2):=by rw [if_pos rfl] at H;exact H
              clear H;have H:=H1;clear H1
              by_cases c12:x5_1.length<4398046511104
              · rw [if_pos c12] at H
                have LMc12:=qAm c12;clear c12;obtain⟨y145,hy145⟩:∃y_:List (S26),y_=(x5_1 ++ [(⟨(rd_T26 t136 x6_1).f0,(rd_T26 t136 x6_1).f1⟩:S26)]):=⟨_,rfl⟩
                replace H:(spec_PrimesOfNorm.l0 k1 t136 y145 (wrap64 (x6_1+1)))=some (r1,r2):=by first|(rw [hy145];with_reducible exact H)|(have H2_:=(Option.bind_some _ _).symm.trans H;rw [hy145];with_reducible exact H2_)|(have H2_:=(Option.bind_some _ _).symm.trans H;with_reducible exact H2_)|with_reducible exact H|(rw [hy145];exact H)|exact H
                have Ny145:=qAm hy145;clear hy145;have H':=qAm H;clear H;obtain⟨Ao13,co13,eo13⟩:=Kd.N_slice HO_4.1;subst eo13;have p142:0≤(x6_1:Int):=of_decide_eq_true qB36;have q142:x6_1<(t136.length:Int):=of_decide_eq_true qB36;obtain⟨ad142,A142_1,c142_1,e142,hx142_0,hx142_1,hl142_1,hi142_1⟩:=at_T26 (Kd.N_reads' HO_4.1).2.2 x6_1 p142 q142;cases e142
                obtain⟨ce142,hce142,hMe142,hcc142⟩:=Kd.N_get HO_4.1 z26 x6_1 p142 qB14;obtain⟨ua142_1,uc142_1,rfl,ul142_1,ge142_1⟩:=k26_openF hMe142;have hv142_1:=hcc142 1 _ rfl;rw [add_field _ _ 1 (by omega)] at hv142_1;replace hv142_1:=Option.some.inj (hv142_1.symm.trans hx142_1);injection hv142_1 with hva_ hvn_ hvc_
                rw [hva_] at ge142_1;rw [hvc_] at ul142_1;have HL142_1:=qAm (show Kd.V (Kd.int .i64) 2 _ w.heap.size _ _ ((rd_T26 t136 x6_1).f1) from Kd.V_mk ul142_1 ge142_1);clear hva_ hvn_ hvc_ ge142_1 ul142_1 hcc142 hce142;have HR142_1:=qAm hi142_1;have HC142_1:=qAm hl142_1;clear hi142_1 hl142_1;replace p142:=eq_true p142;replace q142:=eq_true q142;go_wp2_with (first|((with_reducible refine gate_callee (f:=39) rfl ?_);refine goesL_ (some 23) rfl rfl Try.func39 (by kernel_rfl) rfl #[.agg #[.int .i64 ((rd_T26 t136 x6_1).f0),.slice A142_1 ((rd_T26 t136 x6_1).f1).length c142_1]] rfl qB15 ?_;(with_reducible refine(spec_l09Prime.calls k1 ((rd_T26 t136 x6_1).f0) _ _ ((rd_T26 t136 x6_1).f1) true _ ?side1 ?side2 A10.1).mono ?_);(case side1=>repeat(first|exact qB7|(with_reducible refine Kd.C_alloc ?_ _)|(with_reducible refine Kd.C_drewN ?_ _)|(with_reducible refine Kd.C_drew ?_)));(case side2=>exact HC142_1.1);rintro e w14 ⟨rfl,hb⟩;refine⟨_,rfl,?_⟩;have n0_:=qAm (Kd.N_below qB31 hb);have n1_:=qAm (Kd.N_below qB32 hb);have n2_:=qAm (Kd.V_below qB23 hb);have n3_:=qAm (Kd.C_below qB7 hb);have n4_:=qAm (below_step qB16 hb);clear HO_4;clear HO_5;clear HL142_1;clear HR142_1;clear HB;have HO_4:=n0_;have HO_5:=n1_;have HL142_1:=n2_;have HR142_1:=n3_;have HB:=n4_;clear n0_ n1_ n2_ n3_ n4_;(try clear hb);(try clear hb2);(try clear hk);(try clear hi);have p144:0≤(x6_1:Int):=of_decide_eq_true qB36;have q144:x6_1<(t136.length:Int):=of_decide_eq_true qB36;obtain⟨ad144,A144_1,c144_1,e144,hx144_0,hx144_1,hl144_1,hi144_1⟩:=at_T26 (Kd.N_reads' HO_4.1).2.2 x6_1 p144 q144;obtain rfl:ad142=ad144:=(by injection e144);obtain⟨ce144,hce144,hMe144,hcc144⟩:=Kd.N_get HO_4.1 z26 x6_1 p144 (by first|exact q144|exact of_decide_eq_true qB36|(have e_:=(Kd.N_reads' HO_4.1).1;omega));obtain⟨ua144_1,uc144_1,rfl,ul144_1,ge144_1⟩:=k26_openF hMe144;have hv144_1:=hcc144 1 _ rfl;rw [add_field _ _ 1 (by omega)] at hv144_1;replace hv144_1:=Option.some.inj (hv144_1.symm.trans hx144_1);injection hv144_1 with hva_ hvn_ hvc_;rw [hva_] at ge144_1;rw [hvc_] at ul144_1;have HL144_1:=qAm (show Kd.V (Kd.int .i64) 2 _ w.heap.size _ _ ((rd_T26 t136 x6_1).f1) from Kd.V_mk ul144_1 ge144_1);clear hva_ hvn_ hvc_ ge144_1 ul144_1;clear hcc144 hce144;have HR144_1:=qAm hi144_1;have HC144_1:=qAm hl144_1;clear hi144_1 hl144_1;replace p144:=eq_true p144;replace q144:=eq_true q144)|((with_reducible refine gate_builtin (b:=.append) (xs:=#[.tmp 24,.tmp 29]) rfl ?_);at_builtin;refine Kd.N_append k26 (w0:=w) w.heap.size rfl (.tmp 24) (.tmp 29) 37 26 (.agg #[(.int .i64 0),(.slice none 0 0)]) 32 rfl Try.underlying37 info26 rfl (by decide) (by omega) u5 x5_1 (⟨(rd_T26 t136 x6_1).f0,(rd_T26 t136 x6_1).f1⟩:S26) [.int .i64 ((rd_T26 t136 x6_1).f0),.slice A144_1 ((rd_T26 t136 x6_1).f1).length c144_1] (fun k_=>(w.heap.size≤k_)∧some k_≠(.slice (some ad142) t136.length co13:Value).ownBlock) (fun k_=>((fun k_=>(w.heap.size≤k_)∧some k_≠(.slice (some ad142) t136.length co13:Value).ownBlock)) k_∧some k_≠(u5:Value).ownBlock) rfl rfl ?aP (fun _ hk=>hk) ?aF ?aO ?aB ?aS ?aL ?_;(case aP=>exact(k26_mkF _ _ (⟨(rd_T26 t136 x6_1).f0,(rd_T26 t136 x6_1).f1⟩:S26) (Kd.V_reads' (Kd.V_mono (ok':=(fun k_=>((fun k_=>(w.heap.size≤k_)∧some k_≠(.slice (some ad142) t136.length co13:Value).ownBlock)) k_∧some k_≠(u5:Value).ownBlock)) (HL144_1.1) (fun k_ hk=>⟨⟨hk.1.1,hk.2⟩,hk.1.2⟩))).2.1 (Kd.V_F (Kd.V_mono (ok':=(fun k_=>((fun k_=>(w.heap.size≤k_)∧some k_≠(.slice (some ad142) t136.length co13:Value).ownBlock)) k_∧some k_≠(u5:Value).ownBlock)) (HL144_1.1) (fun k_ hk=>⟨⟨hk.1.1,hk.2⟩,hk.1.2⟩)))));(case aB=>exact qB16);(case aF=>exact(fun k_ hk=>⟨(Nat.le_trans (below_size qB16) hk),Kd.fresh' (Kd.N_lt qB31) k_ hk⟩));(case aO=>exact qB32);(case aS=>exact(below_size qB16));(case aL=>have:=LMc12.1;omega);intro v146 w15 ho hb hg hat;rw [← Ny145.1] at ho;have n0_:=qAm (Kd.N_afterv (ok:=(fun k_=>(w.heap.size≤k_))) qB31 hg hat);have n1_:=qAm (Kd.V_afterv (ok:=(fun k_=>(w.heap.size≤k_)∧some k_≠(.slice (some ad142) t136.length co13:Value).ownBlock)) (by (with_reducible repeat(first|apply Kd.V_alloc|apply Kd.V_drewN|apply Kd.V_drew));exact Kd.V_mono HL142_1.1 (fun _ hk=>⟨⟨hk.1.1,hk.2⟩,hk.1.2⟩)) hg hat);have n2_:=qAm (Kd.V_afterv (ok:=(fun k_=>(w.heap.size≤k_)∧some k_≠(.slice (some ad142) t136.length co13:Value).ownBlock)) (by (with_reducible repeat(first|apply Kd.V_alloc|apply Kd.V_drewN|apply Kd.V_drew));exact Kd.V_mono HL144_1.1 (fun _ hk=>⟨⟨hk.1.1,hk.2⟩,hk.1.2⟩)) hg hat);have n3_:=qAm (hb);have n4_:=qAm (ho);clear HO_4;clear HL142_1;clear HL144_1;clear HB;clear HO_5;have HO_4:=n0_;have HL142_1:=n1_;have HL144_1:=n2_;have HB:=n3_;have HO147:=n4_;clear n0_ n1_ n2_ n3_ n4_;clear ho hb hg hat))
                (first|go_roundg k1|((try simp only [add_plain] at *);go_roundg k1))
                case measure=>have:=HK1.1;omega
                case rel=>exact⟨(y145),(wrap64 (x6_1+1)),qB37,H',⟨by have:=HK1.1;omega⟩,⟨by (with_reducible repeat(first|apply Kd.N_alloc|apply Kd.N_drewN|apply Kd.N_drew));exact HO_4.1⟩,⟨by (with_reducible repeat(first|apply Kd.N_alloc|apply Kd.N_drewN|apply Kd.N_drew));exact HO147.1⟩,⟨by repeat(first|(with_reducible first|exact HB.1|apply below_alloc|apply pw_below_drewN|apply below_drew1)|exact HB.1)⟩⟩
              · rw [if_neg c12] at H
                exact absurd H (by simp)
            · replace c11:=Bool.eq_false_iff.mpr c11
              subst c11;have H1:(spec_PrimesOfNorm.l0 k1 t136 x5_1 (wrap64 (x6_1+1)))=some (r1,r2):=by rw [if_neg (show ¬(false=true) by decide)] at H;exact H
              clear H;have H:=H1;clear H1;have H':=qAm H;clear H;obtain⟨Ao16,co16,eo16⟩:=Kd.N_slice HO_4.1;subst eo16;have p142:0≤(x6_1:Int):=of_decide_eq_true qB36;have q142:x6_1<(t136.length:Int):=of_decide_eq_true qB36;obtain⟨ad142,A142_1,c142_1,e142,hx142_0,hx142_1,hl142_1,hi142_1⟩:=at_T26 (Kd.N_reads' HO_4.1).2.2 x6_1 p142 q142;cases e142
              obtain⟨ce142,hce142,hMe142,hcc142⟩:=Kd.N_get HO_4.1 z26 x6_1 p142 qB14;obtain⟨ua142_1,uc142_1,rfl,ul142_1,ge142_1⟩:=k26_openF hMe142;have hv142_1:=hcc142 1 _ rfl;rw [add_field _ _ 1 (by omega)] at hv142_1;replace hv142_1:=Option.some.inj (hv142_1.symm.trans hx142_1);injection hv142_1 with hva_ hvn_ hvc_
              rw [hva_] at ge142_1;rw [hvc_] at ul142_1;have HL142_1:=qAm (show Kd.V (Kd.int .i64) 2 _ w.heap.size _ _ ((rd_T26 t136 x6_1).f1) from Kd.V_mk ul142_1 ge142_1);clear hva_ hvn_ hvc_ ge142_1 ul142_1 hcc142 hce142;have HR142_1:=qAm hi142_1;have HC142_1:=qAm hl142_1;clear hi142_1 hl142_1;replace p142:=eq_true p142;replace q142:=eq_true q142;go_wp2_with (first|((with_reducible refine gate_callee (f:=39) rfl ?_);refine goesL_ (some 23) rfl rfl Try.func39 (by kernel_rfl) rfl #[.agg #[.int .i64 ((rd_T26 t136 x6_1).f0),.slice A142_1 ((rd_T26 t136 x6_1).f1).length c142_1]] rfl qB15 ?_;(with_reducible refine(spec_l09Prime.calls k1 ((rd_T26 t136 x6_1).f0) _ _ ((rd_T26 t136 x6_1).f1) false _ ?side1 ?side2 A10.1).mono ?_);(case side1=>repeat(first|exact qB7|(with_reducible refine Kd.C_alloc ?_ _)|(with_reducible refine Kd.C_drewN ?_ _)|(with_reducible refine Kd.C_drew ?_)));(case side2=>exact HC142_1.1);rintro e w17 ⟨rfl,hb⟩;refine⟨_,rfl,?_⟩;have n0_:=qAm (Kd.N_below qB31 hb);have n1_:=qAm (Kd.N_below qB32 hb);have n2_:=qAm (Kd.V_below qB23 hb);have n3_:=qAm (Kd.C_below qB7 hb);have n4_:=qAm (below_step qB16 hb);clear HO_4;clear HO_5;clear HL142_1;clear HR142_1;clear HB;have HO_4:=n0_;have HO_5:=n1_;have HL142_1:=n2_;have HR142_1:=n3_;have HB:=n4_;clear n0_ n1_ n2_ n3_ n4_;(try clear hb);(try clear hb2);(try clear hk);(try clear hi)))
              (first|go_roundg k1|((try simp only [add_plain] at *);go_roundg k1))
              case measure=>have:=HK1.1;omega
              case rel=>exact⟨(x5_1),(wrap64 (x6_1+1)),qB37,H',⟨by have:=HK1.1;omega⟩,⟨by (with_reducible repeat(first|apply Kd.N_alloc|apply Kd.N_drewN|apply Kd.N_drew));exact HO_4.1⟩,⟨by (with_reducible repeat(first|apply Kd.N_alloc|apply Kd.N_drewN|apply Kd.N_drew));exact HO_5.1⟩,⟨by repeat(first|(with_reducible first|exact HB.1|apply below_alloc|apply pw_below_drewN|apply below_drew1)|exact HB.1)⟩⟩
          · rw [if_neg c9] at H
            exact absurd H (by simp)
        · rw [if_neg c8] at H
          have c8b0:decide (x6_1<(t136.length:Int))=false:=decide_eq_false c8;clear c8;simp only [Option.some.injEq,Prod.mk.injEq] at H;obtain⟨rfl,rfl⟩:=H;obtain⟨Ao18,co18,eo18⟩:=Kd.N_slice HO_4.1;subst eo18;go_wp2;go_ret2;exact⟨_,by first|rfl|(simp [errW_none,errW_some] <;> rfl)|(simp [*,errW_none,errW_some] <;> rfl),by (with_reducible repeat(first|apply Kd.N_alloc|apply Kd.N_drewN|apply Kd.N_drew));exact Kd.N_mono HO_5.1 (fun _ hk=>hk.1),by repeat(first|(with_reducible first|exact HB.1|apply below_alloc|apply pw_below_drewN|apply below_drew1)|exact HB.1)⟩
  · replace c3:=Bool.eq_false_iff.mpr c3
    subst c3;have H1:(some (([]:List (S26)),2))=some (r1,r2):=by rw [if_neg (show ¬(false=true) by decide)] at H;exact H
    clear H;have H:=H1;clear H1;simp only [Option.some.injEq,Prod.mk.injEq] at H;obtain⟨rfl,rfl⟩:=H;go_enter Try.func18,Try.ntmps18;go_wp2_with (first|((with_reducible refine gate_callee (f:=46) rfl ?_);refine goesL_ (some 8) rfl rfl Try.func46 (by kernel_rfl) rfl #[.int .i64 a0,.int .i64 1,.int .i64 1000000] rfl qB15 ?_;(with_reducible refine(spec_l01In.calls a0 1 1000000 false _ A2.1).mono ?_);rintro e w' ⟨rfl,⟨nd,rfl⟩⟩;refine⟨_,rfl,?_⟩));go_ret2;exact⟨_,by first|rfl|(simp [errW_none,errW_some] <;> rfl)|(simp [*,errW_none,errW_some] <;> rfl),by first|exact Kd.S_nil _ _ _ _ _|exact Kd.N_nil _ _ _ _ _|exact Kd.V_nil _ _ _ _ _|exact Kd.Q_nil _ _ _ _ _|exact Kd.R_nil _ _ _ _ _,by repeat(first|(with_reducible first|exact HB.1|apply below_alloc|apply pw_below_drewN|apply below_drew1)|exact HB.1)⟩

-- NOT PRINTED: function 75 (slices_IndexFunc_int64_int64)

-- NOT PRINTED: function 68 (slices_ContainsFunc_int64_int64)

/-! ### impl_areSmall: function 58 -/
def impl_areSmall.f (l0:List Int) (a1:Int):Option (Bool):=some (l0.all fun n_=>decide (wrap64 (-a1)≤n_) && decide (n_≤a1))
-- HAND
theorem hsm_within (a0 a1 a2:Int) (w:World):
    Calls Try.prog 48 #[.int .i64 a0,.int .i64 a1,.int .i64 a2] w fun e w'=>e=.returned (.bool (decide (a1≤a0) && decide (a0≤a2)))∧Drawn0 w w':=by
  by_cases h1:a1≤a0 <;> by_cases h2:a0≤a2
  all_goals
    go_enter Try.func48,Try.ntmps48;go_wp2;go_ret;exact⟨by simp [*],Drawn0.refl _⟩

theorem hsm_cl (n m:Int) (B:Nat) (w:World) (hc:w.cell? ⟨B,0,none⟩=some (.int .i64 m)):
    Calls Try.prog 69 #[.int .i64 n,.pointer (some ⟨B,0,none⟩)] w fun e w'=>e=.returned (.bool (!(decide (wrap64 (-m)≤n) && decide (n≤m))))∧Drawn0 w w':=by
  go_enter Try.func69,Try.ntmps69;go_wp2_with (go_at_call 48;refine(hsm_within _ _ _ _).mono ?_;rintro e w' ⟨rfl,⟨nd,rfl⟩⟩);go_ret;exact⟨by simp,⟨_,rfl⟩⟩

def hsm_p (m n:Int):Bool:=decide (wrap64 (-m)≤n) && decide (n≤m)
def hsm_ix (m:Int) (l:List Int) (i:Int):Prop:=decide (0≤i)=!(l.all (hsm_p m))

theorem hsm_all {m:Int} {l:List Int} (h:∀j,j<l.length→hsm_p m (l.getD j 0)=true):l.all (hsm_p m)=true:=by
  rw [List.all_eq_true];intro x hx;obtain⟨j,hj,rfl⟩:=List.getElem_of_mem hx;have:=h j hj
  rwa [List.getD_eq_getElem?_getD,List.getElem?_eq_getElem hj] at this

theorem hsm_any {m:Int} {l:List Int} {j:Nat} (hj:j<l.length) (h:hsm_p m (l.getD j 0)=false):l.all (hsm_p m)=false:=by
  rw [Bool.eq_false_iff];intro h2;rw [List.all_eq_true] at h2;have:=h2 (l.getD j 0) (by rw [List.getD_eq_getElem?_getD,List.getElem?_eq_getElem hj];exact List.getElem_mem hj);rw [h] at this;cases this

theorem hsm_cl' (n m:Int) (B:Nat) (w:World) (b:Bool) (hc:w.cell? ⟨B,0,none⟩=some (.int .i64 m)) (hb:hsm_p m n=b):
    Calls Try.prog 69 #[.int .i64 n,.pointer (some ⟨B,0,none⟩)] w fun e w'=>e=.returned (.bool (!b))∧Drawn0 w w':=by
  subst hb;exact hsm_cl n m B w hc

set_option maxHeartbeats 1000000 in
theorem hsm_index (A:Option Addr) (c:Nat) (l:List Int) (m:Int) (B:Nat) (w:World) (hr:Kd.C (Kd.int .i64) w A l.length l) (hc:w.cell? ⟨B,0,none⟩=some (.int .i64 m)):
    Calls Try.prog 75 #[.slice A l.length c,.func (.func 69) #[] #[.pointer (some ⟨B,0,none⟩)]] w fun e w'=>∃i:Int,e=.returned (.int .i64 i)∧Aside0 (hsm_ix m l i)∧Drawn0 w w':=by
  have HR:=qAm hr;have HL:l.length≤9223372036854775807:=hr.2.1;clear hr;go_enter Try.func75,Try.ntmps75;go_wp2;go_loopg [8] (l.length+1) (fun kq v8 w'=>∃k:Nat,v8=.int .i64 k∧Aside0 (kq+k=l.length+1∧k≤l.length∧∀j,j<k→hsm_p m (l.getD j 0)=true)∧Drawn0 w w')
  case atStart=>exact⟨0,rfl,⟨by omega,by omega,fun j hj=>by omega⟩,Drawn0.refl _⟩
  case round=>
    obtain⟨k,rfl,HA,⟨m1,rfl⟩⟩:=hrel
    by_cases hlt:k<l.length
    · obtain⟨ad,hA,hx⟩:=Kd.at_int HR.1 (k:Int) (by omega) (by omega)
      cases hA
      have hx':w.cell? (ad.add k)=some (.int .i64 (rd l k)):=by simpa using hx
      clear hx;cases hb:hsm_p m (rd l k) with
      |true=>
        have HB:=qAm hb;clear hb;go_wp2_with (go_at_call 69;refine(hsm_cl' _ _ _ _ true (by simpa using hc) HB.1).mono ?_;rintro e w' ⟨rfl,⟨nd,rfl⟩⟩);go_roundg (gk - 1)
        case measure=>have:=HA.1;omega
        case rel=>
          refine⟨k+1,by go_num,⟨by have:=HA.1;omega,by omega,fun j hj=>?_⟩,⟨_,rfl⟩⟩
          by_cases hj':j<k
          · exact HA.1.2.2 j hj'
          · obtain rfl:j=k:=by omega
            exact HB.1
      |false=>
        have HB:=qAm hb;clear hb;go_wp2_with (go_at_call 69;refine(hsm_cl' _ _ _ _ false (by simpa using hc) HB.1).mono ?_;rintro e w' ⟨rfl,⟨nd,rfl⟩⟩);go_ret;exact⟨(k:Int),rfl,⟨by unfold hsm_ix;rw [hsm_any hlt HB.1];simp⟩,⟨_,rfl⟩⟩
    · go_wp2
      go_ret;exact⟨-1,rfl,⟨by unfold hsm_ix;rw [hsm_all (fun j hj=>HA.1.2.2 j (by omega))];simp⟩,⟨_,rfl⟩⟩

theorem hsm_contains (A:Option Addr) (c:Nat) (l:List Int) (m:Int) (B:Nat) (w:World) (hr:Kd.C (Kd.int .i64) w A l.length l) (hc:w.cell? ⟨B,0,none⟩=some (.int .i64 m)):
    Calls Try.prog 68 #[.slice A l.length c,.func (.func 69) #[] #[.pointer (some ⟨B,0,none⟩)]] w fun e w'=>e=.returned (.bool (!(l.all (hsm_p m))))∧Drawn0 w w':=by
  have HR:=qAm hr;clear hr;go_enter Try.func68,Try.ntmps68;go_wp2_with (go_at_call 75;refine(hsm_index _ _ l m B _ HR.1 hc).mono ?_;rintro e w' ⟨i,rfl,hi,⟨nd,rfl⟩⟩);go_ret;exact⟨by have:=hi.1;unfold hsm_ix at this;rw [← this];rfl,⟨_,rfl⟩⟩
set_option maxHeartbeats 8000000 in
set_option maxRecDepth 100000 in
theorem impl_areSmall.calls (A0:Option Addr) (c0:Nat) (l0:List Int) (a1:Int) (r:Bool) (w:World) (hr0:Kd.C (Kd.int .i64) w A0 l0.length l0) (hc0:l0.length≤c0) (h:impl_areSmall.f l0 a1=some r):
    Calls Try.prog 58 #[.slice A0 l0.length c0,.int .i64 a1] w fun e w'=>e=.returned (.bool r)∧Below w.heap.size w w':=by
  have HR:=qAm hr0;clear hr0;obtain rfl:r=l0.all (hsm_p a1):=(Option.some.inj h).symm;clear h;have hmf:∀(fn:Fn) (first cap:Array Value) (w:World),(Instr.makeFunc fn first cap).run Try.prog w=.ok (.func fn first cap) w:=fun _ _ _ _=>rfl
  go_enter Try.func58,Try.ntmps58;go_wp2_with (go_at_call 68;refine(hsm_contains _ _ l0 a1 w.heap.size _ (Kd.C_below HR.1 (below_alloc (Below.refl _ _) _)) (by simp)).mono ?_;rintro e w' ⟨rfl,⟨nd,rfl⟩⟩);go_ret;exact⟨by simp,pw_below_drewN (below_alloc (Below.refl _ _) _) _⟩

/-! ### impl_cubic_told: function 31 -/
def impl_cubic_told.f (a0_0:Int) (a0_1:Int):Option (Int×List Int×Bool):=(some (([a0_0,a0_1]:List Int):List Int)).bind fun y150=>((impl_areSmall.f y150 10000).bind fun t154=>(some (3,y150,t154)))
set_option maxHeartbeats 8000000 in
set_option maxRecDepth 100000 in
theorem impl_cubic_told.calls (a0_0:Int) (a0_1:Int) (r1:Int) (r2:List Int) (r3:Bool) (w:World) (h:impl_cubic_told.f a0_0 a0_1=some (r1,r2,r3)):
    Calls Try.prog 31 #[.agg #[.int .i64 a0_0,.int .i64 a0_1]] w fun e w'=>∃v1_:Value,e=.returned (.tuple #[.agg #[.int .i64 r1,v1_],.bool r3])∧Kd.R (Kd.int .i64) 2 w' w.heap.size (fun _=>True) v1_ r2∧Below w.heap.size w w':=by
  have hu54:=Try.underlying54;have hu26:=Try.underlying26;have HB:=qAm (Below.refl w.heap.size w);have H:((some (([a0_0,a0_1]:List Int):List Int)).bind fun y150=>((impl_areSmall.f y150 10000).bind fun t154=>(some (3,y150,t154))))=some (r1,r2,r3):=h;clear h;obtain⟨y150,hy150⟩:∃y_:List Int,y_=(([a0_0,a0_1]:List Int)):=⟨_,rfl⟩
  replace H:((impl_areSmall.f y150 10000).bind fun t154=>(some (3,y150,t154)))=some (r1,r2,r3):=by first|(rw [hy150];with_reducible exact H)|(have H2_:=(Option.bind_some _ _).symm.trans H;rw [hy150];with_reducible exact H2_)|(have H2_:=(Option.bind_some _ _).symm.trans H;with_reducible exact H2_)|with_reducible exact H|(rw [hy150];exact H)|exact H
  have Ny150:=qAm hy150;clear hy150;replace H:=qOb H;obtain⟨t154,A20,H⟩:=H;replace H:(some (3,y150,t154))=some (r1,r2,r3):=H;have A2:=qAm A20;clear A20;simp only [Option.some.injEq,Prod.mk.injEq] at H;obtain⟨rfl,rfl,rfl⟩:=H;go_enter Try.func31,Try.ntmps31;try go_wp2_with (first|((with_reducible refine gate_dst (N:=1) rfl ?_);refine box_event ?hg (N:=1) ?hd (cs:=#[.int .i64 a0_0,.int .i64 a0_1]) (t:=54) ?hr ?_;(case hd=>rfl);(case hg=>rfl);(case hr=>first|(go_simp;done)|(go_simp;rfl));intro gb148 hg w3 hbox hb;have n0_:=qAm (below_step qB16 hb);have n1_:=qAm (hbox);have n2_:=qAm ((by rw [hg];exact(below_size qB16):w.heap.size≤gb148));have n3_:=qAm ((by rw [hg];exact(below_size qB16):w.heap.size≤gb148));clear HB;have HB:=n0_;have BK148:=n1_;have GW148:=n2_;have GE148:=n3_;clear n0_ n1_ n2_ n3_;clear hb hbox hg)|((with_reducible refine gate_dst (N:=2) rfl ?_);refine box_event ?hg (N:=2) ?hd (cs:=#[.int .i64 0,.slice none 0 0]) (t:=26) ?hr ?_;(case hd=>rfl);(case hg=>rfl);(case hr=>first|(go_simp;done)|(go_simp;rfl));intro gb149 hg w4 hbox hb;have n0_:=qAm (blk_below (g:=gb148) (o:=.cells #[.int .i64 a0_0,.int .i64 a0_1] 54 (0,0)) qB18 hb);have n1_:=qAm (below_step qB10 hb);have n2_:=qAm (hbox);have n3_:=qAm ((by rw [hg];exact(below_size qB10):w.heap.size≤gb149));have n4_:=qAm ((by rw [hg];exact(below_size qB10):w.heap.size≤gb149));have n5_:=qAm ((by rw [hg];exact Nat.ne_of_lt (blk_lt (g:=gb148) (o:=.cells #[.int .i64 a0_0,.int .i64 a0_1] 54 (0,0)) qB18):gb148≠gb149));have n6_:=qAm ((by rw [hg];exact Nat.ne_of_gt (blk_lt (g:=gb148) (o:=.cells #[.int .i64 a0_0,.int .i64 a0_1] 54 (0,0)) qB18):gb149≠gb148));clear BK148;clear HB;have BK148:=n0_;have HB:=n1_;have BK149:=n2_;have GW149:=n3_;have GE149:=n4_;have NB148_149:=n5_;have NB149_148:=n6_;clear n0_ n1_ n2_ n3_ n4_ n5_ n6_;clear hb hbox hg;have hnb5:=NB148_149.1;have hnc5:=NB149_148.1;have hcz6_0:w4.cell? ⟨gb148,0,none⟩=some (.int .i64 a0_0):=(blk_cell BK148.1 0).trans rfl;have hcz6_1:w4.cell? ⟨gb148,1,none⟩=some (.int .i64 a0_1):=(blk_cell BK148.1 1).trans rfl;have hfz6_0:=blk_frozen BK148.1 0;have hfz6_1:=blk_frozen BK148.1 1)|((with_reducible refine gate_dst (N:=9) rfl ?_);refine Kd.R_lit (Kd.int .i64) _ 2 ?hg (N:=9) ?hd (xs:=([a0_0,a0_1]:List Int)) (inner:=[.int .i64 a0_0,.int .i64 a0_1]) (ok:=fun _=>True) (okp:=fun _=>True) ?hr ?hp (fun _ hk=>hk) trivial (Below.refl _ _) (Nat.le_refl _) (by simp) ?_;(case hd=>rfl);(case hg=>rfl);(case hr=>first|(go_simp;done)|(go_simp;rfl));(case hp=>exact(Reps.one (show Kd.M (Kd.int .i64) _ _ _ a0_0 [.int .i64 a0_0] from rfl) (Reps.one (show Kd.M (Kd.int .i64) _ _ _ a0_1 [.int .i64 a0_1] from rfl) (Reps.none _ _))));intro v151 w7 ho8 hb hg_ hnew_;clear hg_ hnew_;(first|rw [← Ny150.1] at ho8|(simp only [Int.reduceToNat] at ho8;rw [← Ny150.1] at ho8));have n0_:=qAm (Kd.R_lower ho8 (below_size qB5));have n1_:=qAm (blk_below (g:=gb148) (o:=.cells #[.int .i64 a0_0,.int .i64 a0_1] 54 (0,0)) qB18 hb);have n2_:=qAm (blk_below (g:=gb149) (o:=.cells #[.int .i64 0,.slice none 0 0] 26 (0,0)) qB19 hb);have n3_:=qAm (below_step qB5 hb);clear BK148;clear BK149;clear HB;have HO152:=n0_;have BK148:=n1_;have BK149:=n2_;have HB:=n3_;clear n0_ n1_ n2_ n3_;clear hb ho8;obtain⟨Ao9,co9,eo9⟩:=Kd.R_slice HO152.1;subst eo9)|((with_reducible refine gate_dst (N:=4) rfl ?_);refine box_event ?hg (N:=4) ?hd (cs:=#[.int .i64 0,.slice none 0 0]) (t:=26) ?hr ?_;(case hd=>rfl);(case hg=>rfl);(case hr=>first|(go_simp;done)|(go_simp;rfl));intro gb153 hg w10 hbox hb;have n0_:=qAm (Kd.R_below qB25 hb);have n1_:=qAm (blk_below (g:=gb148) (o:=.cells #[.int .i64 a0_0,.int .i64 a0_1] 54 (0,0)) qB18 hb);have n2_:=qAm (blk_below (g:=gb149) (o:=.cells #[.int .i64 0,.slice none 0 0] 26 (0,0)) qB19 hb);have n3_:=qAm (below_step qB5 hb);have n4_:=qAm (hbox);have n5_:=qAm ((by rw [hg];exact(below_size qB5):w.heap.size≤gb153));have n6_:=qAm ((by rw [hg];exact(below_size qB5):w.heap.size≤gb153));have n7_:=qAm ((by rw [hg];exact Nat.ne_of_lt (blk_lt (g:=gb148) (o:=.cells #[.int .i64 a0_0,.int .i64 a0_1] 54 (0,0)) qB18):gb148≠gb153));have n8_:=qAm ((by rw [hg];exact Nat.ne_of_gt (blk_lt (g:=gb148) (o:=.cells #[.int .i64 a0_0,.int .i64 a0_1] 54 (0,0)) qB18):gb153≠gb148));have n9_:=qAm ((by rw [hg];exact Nat.ne_of_lt (blk_lt (g:=gb149) (o:=.cells #[.int .i64 0,.slice none 0 0] 26 (0,0)) qB19):gb149≠gb153));have n10_:=qAm ((by rw [hg];exact Nat.ne_of_gt (blk_lt (g:=gb149) (o:=.cells #[.int .i64 0,.slice none 0 0] 26 (0,0)) qB19):gb153≠gb149));clear HO152;clear BK148;clear BK149;clear HB;have HO152:=n0_;have BK148:=n1_;have BK149:=n2_;have HB:=n3_;have BK153:=n4_;have GW153:=n5_;have GE153:=n6_;have NB148_153:=n7_;have NB153_148:=n8_;have NB149_153:=n9_;have NB153_149:=n10_;clear n0_ n1_ n2_ n3_ n4_ n5_ n6_ n7_ n8_ n9_ n10_;clear hb hbox hg;have hnb11:=NB153_148.1;have hnc11:=NB148_153.1;have hnb12:=NB153_149.1;have hnc12:=NB149_153.1;have hcz13_0:w10.cell? ⟨gb153,0,none⟩=some (.int .i64 0):=(blk_cell BK153.1 0).trans rfl;have hcz13_1:w10.cell? ⟨gb153,1,none⟩=some (.slice none 0 0):=(blk_cell BK153.1 1).trans rfl;have hfz13_0:=blk_frozen BK153.1 0;have hfz13_1:=blk_frozen BK153.1 1))
  have n0_:Aside0 (Kd.R (Kd.int .i64) 2 ((w10.setCell ⟨gb153,0,none⟩ (.int .i64 3)).setCell ⟨gb153,1,none⟩ (.slice Ao9 y150.length co9)) w.heap.size (fun _=>True) (.slice Ao9 y150.length co9) y150):=⟨by (with_reducible repeat(first|apply Kd.R_alloc|apply Kd.R_drewN|apply Kd.R_drew));exact Kd.R_mono (Kd.R_far (p:=⟨gb153,1,none⟩) (Kd.R_far (p:=⟨gb153,0,none⟩) (Kd.R_types HO152.1 BK153.1 (by decide)) (fun _ hk=>hk.2) (.int .i64 3)) (fun _ hk=>hk.2) (.slice Ao9 y150.length co9)) (fun _ hk=>trivial)⟩
  have n1_:Aside0 (((w10.setCell ⟨gb153,0,none⟩ (.int .i64 3)).setCell ⟨gb153,1,none⟩ (.slice Ao9 y150.length co9)).heap[gb148]? =some (.cells #[.int .i64 a0_0,.int .i64 a0_1] 54 (0,0))):=⟨by (with_reducible repeat(first|refine blk_drewN ?_ _|refine blk_drew ?_|refine blk_alloc ?_ _));refine blk_far ?_ NB148_153.1 _;(with_reducible repeat(first|refine blk_drewN ?_ _|refine blk_drew ?_|refine blk_alloc ?_ _));refine blk_far ?_ NB148_153.1 _;(with_reducible repeat(first|refine blk_drewN ?_ _|refine blk_drew ?_|refine blk_alloc ?_ _));exact BK148.1⟩
  have n2_:Aside0 (((w10.setCell ⟨gb153,0,none⟩ (.int .i64 3)).setCell ⟨gb153,1,none⟩ (.slice Ao9 y150.length co9)).heap[gb149]? =some (.cells #[.int .i64 0,.slice none 0 0] 26 (0,0))):=⟨by (with_reducible repeat(first|refine blk_drewN ?_ _|refine blk_drew ?_|refine blk_alloc ?_ _));refine blk_far ?_ NB149_153.1 _;(with_reducible repeat(first|refine blk_drewN ?_ _|refine blk_drew ?_|refine blk_alloc ?_ _));refine blk_far ?_ NB149_153.1 _;(with_reducible repeat(first|refine blk_drewN ?_ _|refine blk_drew ?_|refine blk_alloc ?_ _));exact BK149.1⟩
  have n3_:Aside0 (((w10.setCell ⟨gb153,0,none⟩ (.int .i64 3)).setCell ⟨gb153,1,none⟩ (.slice Ao9 y150.length co9)).heap[gb153]? =some (.cells #[.int .i64 3,.slice Ao9 y150.length co9] 26 (0,0))):=⟨by (with_reducible repeat(first|refine blk_drewN ?_ _|refine blk_drew ?_|refine blk_alloc ?_ _));refine blk_put (cs:=#[.int .i64 3,.slice none 0 0]) ?_ 1 _ rfl;(with_reducible repeat(first|refine blk_drewN ?_ _|refine blk_drew ?_|refine blk_alloc ?_ _));refine blk_put (cs:=#[.int .i64 0,.slice none 0 0]) ?_ 0 _ rfl;(with_reducible repeat(first|refine blk_drewN ?_ _|refine blk_drew ?_|refine blk_alloc ?_ _));exact BK153.1⟩
  have n4_:Aside0 (Below w.heap.size w ((w10.setCell ⟨gb153,0,none⟩ (.int .i64 3)).setCell ⟨gb153,1,none⟩ (.slice Ao9 y150.length co9))):=⟨by repeat(first|(with_reducible first|exact HB.1|apply below_alloc|apply pw_below_drewN|apply below_drew1|refine below_set ?_ GE148.1|refine below_set ?_ GE149.1|refine below_set ?_ GE153.1)|exact HB.1)⟩
  (try clear HO152)
  (try clear BK148)
  (try clear BK149)
  (try clear BK153)
  (try clear HB)
  generalize ((w10.setCell ⟨gb153,0,none⟩ (.int .i64 3)).setCell ⟨gb153,1,none⟩ (.slice Ao9 y150.length co9))=w14 at n0_ n1_ n2_ n3_ n4_ ⊢;have HO152:=n0_;have BK148:=n1_;have BK149:=n2_;have BK153:=n3_;have HB:=n4_;clear n0_ n1_ n2_ n3_ n4_;have n0_:=qAm (Kd.R_drew HO152.1);have n1_:=qAm (blk_drew BK148.1);have n2_:=qAm (blk_drew BK149.1);have n3_:=qAm (blk_drew BK153.1);have n4_:=qAm (below_drew1 HB.1);clear HO152 BK148 BK149 BK153 HB;have HO152:=n0_;have BK148:=n1_;have BK149:=n2_;have BK153:=n3_;have HB:=n4_;clear n0_ n1_ n2_ n3_ n4_;refine start_ (n:=6) (S:=fun w'=>w'.cell? ⟨gb153,0,none⟩=some (.int .i64 3)∧w'.cell? ⟨gb153,1,none⟩=some (.slice Ao9 y150.length co9)) (ds:=[]) #[false,false,false,false,false,false] (by kernel_rfl) rfl rfl ⟨(blk_cell BK153.1 0).trans rfl,(blk_cell BK153.1 1).trans rfl⟩ (fun hHeld=>?_);generalize w14.drew=w15 at HO152 BK148 BK149 BK153 HB hHeld ⊢;refine pure_ (i:=1) (N:=some 12) (v:=?_) (a':=?_) #[false,true,false,false,false,false] rfl rfl (by kernel_rfl) (fun _ _ _ h=>h) (Or.inl ⟨by rfl,?_⟩) ?_ ?_;rotate_left
  · intro w'
    go_simp;with_reducible rfl
  rotate_left
  · simp only [Act.put,qSa,qSb,qSc,i64_w,i32_w]
    rfl
  refine take_ (i:=0) (N:=some 11) (v:=?_) (a':=?_) #[true,true,false,false,false,false] rfl rfl (by kernel_rfl) (fun _ _ _ h=>h) (Or.inl ⟨by rfl,?_⟩) hHeld ?_ ?_;rotate_left
  · rintro w' ⟨s0,s1⟩
    go_simp;with_reducible rfl
  rotate_left
  · simp only [Act.put,qSa,qSb,qSc,i64_w,i32_w]
    rfl
  refine take_ (i:=2) (N:=some 13) (v:=?_) (a':=?_) #[true,true,true,false,false,false] rfl rfl (by kernel_rfl) (fun _ _ _ h=>h) (Or.inl ⟨by rfl,?_⟩) hHeld ?_ ?_;rotate_left
  · rintro w' ⟨s0,s1⟩
    go_simp;with_reducible rfl
  rotate_left
  · simp only [Act.put,qSa,qSb,qSc,i64_w,i32_w]
    rfl
  refine one_ (i:=3) (N:=some 14) #[true,true,true,true,false,false] rfl rfl (by kernel_rfl) (by decide) (fun K hK=>?_);refine goes_ Try.func58 (by kernel_rfl) rfl #[.slice Ao9 y150.length co9,.int .i64 10000] (by rfl) rfl rfl qB15 ?_;with_reducible refine(impl_areSmall.calls _ _ y150 10000 t154 _ ?side1 ?side2 A2.1).mono ?_
  (case side1=>repeat(first|exact(Kd.R_reads' HO152.1).2.2|(with_reducible refine Kd.C_alloc ?_ _)|(with_reducible refine Kd.C_drewN ?_ _)|(with_reducible refine Kd.C_drew ?_)))
  (case side2=>exact(Kd.R_reads' HO152.1).2.1)
  rintro e w16 ⟨rfl,hb⟩;refine⟨_,rfl,?_⟩;have n0_:=qAm (Kd.R_below qB25 hb);have n1_:=qAm (blk_below (g:=gb148) (o:=.cells #[.int .i64 a0_0,.int .i64 a0_1] 54 (0,0)) qB18 hb);have n2_:=qAm (blk_below (g:=gb149) (o:=.cells #[.int .i64 0,.slice none 0 0] 26 (0,0)) qB19 hb);have n3_:=qAm (blk_below (g:=gb153) (o:=.cells #[.int .i64 3,.slice Ao9 y150.length co9] 26 (0,0)) (by (with_reducible repeat(first|refine blk_drewN ?_ _|refine blk_drew ?_|refine blk_alloc ?_ _));exact BK153.1) hb);have n4_:=qAm (below_step (by repeat(first|(with_reducible first|exact HB.1|apply below_alloc|apply pw_below_drewN|apply below_drew1|refine below_set ?_ GE148.1|refine below_set ?_ GE149.1|refine below_set ?_ GE153.1)|exact HB.1)) hb);clear HO152 BK148 BK149 BK153 HB;have HO152:=n0_;have BK148:=n1_;have BK149:=n2_;have BK153:=n3_;have HB:=n4_;clear n0_ n1_ n2_ n3_ n4_
  (try clear hb)
  (try clear hb2)
  (try clear hk)
  (try clear hi)
  refine hK.out _ _ ⟨(blk_cell BK153.1 0).trans rfl,(blk_cell BK153.1 1).trans rfl⟩ (fun hHeld=>?_);clear hK K;refine norm_ (a':=?_) ?_ ?_;rotate_left
  · show Act.put _ (some 14) _=_
    simp only [Act.put,qSa,qSb,qSc,i64_w,i32_w];rfl
  refine one_ (i:=4) (N:=none) #[true,true,true,true,true,false] rfl rfl (by kernel_rfl) (by decide) (fun K hK=>?_);have hs17:w16.cell? ⟨gb149,0,none⟩=some (.int .i64 0):=(blk_cell BK149.1 0).trans rfl;have hfs17:=blk_frozen BK149.1 0;have hns17_0:=NB148_149.1;have hns17_2:=NB153_149.1;have hms17_0:=NB149_148.1;have hms17_2:=NB149_153.1;have hs18:w16.cell? ⟨gb149,1,none⟩=some (.slice none 0 0):=(blk_cell BK149.1 1).trans rfl;have hfs18:=blk_frozen BK149.1 1;have hns18_0:=NB148_149.1;have hns18_2:=NB153_149.1;have hms18_0:=NB149_148.1;have hms18_2:=NB149_153.1;refine skip_ (w1:=?_) (by rfl) rfl ?_ ?_;rotate_left
  · go_simp
    rfl
  refine hK.out _ _ ⟨((cell_far (p:=⟨gb149,_,none⟩) NB153_149.1 _).trans (((cell_far (p:=⟨gb149,_,none⟩) NB153_149.1 _).trans (hHeld.1)))),((cell_far (p:=⟨gb149,_,none⟩) NB153_149.1 _).trans (((cell_far (p:=⟨gb149,_,none⟩) NB153_149.1 _).trans (hHeld.2))))⟩ (fun hHeld=>?_);clear hK K;refine pure_ (i:=5) (N:=some 3) (v:=?_) (a':=?_) #[true,true,true,true,true,true] rfl rfl (by kernel_rfl) (fun _ _ _ h=>h) (Or.inl ⟨by rfl,?_⟩) ?_ ?_;rotate_left
  · intro w'
    go_simp;with_reducible rfl
  rotate_left
  · simp only [Act.put,qSa,qSb,qSc,i64_w,i32_w]
    rfl
  refine done_ (by kernel_rfl) ?_;try go_wp2
  refine bodyPost_ret (results_ct rfl _ _ gb149 26 #[.int .i64 3,.slice Ao9 y150.length co9] (0,0) _ rfl (by (with_reducible repeat(first|refine blk_drewN ?_ _|refine blk_drew ?_|refine blk_alloc ?_ _));refine blk_put (cs:=#[.int .i64 3,.slice none 0 0]) ?_ 1 _ rfl;(with_reducible repeat(first|refine blk_drewN ?_ _|refine blk_drew ?_|refine blk_alloc ?_ _));refine blk_put (cs:=#[.int .i64 0,.slice none 0 0]) ?_ 0 _ rfl;(with_reducible repeat(first|refine blk_drewN ?_ _|refine blk_drew ?_|refine blk_alloc ?_ _));exact BK149.1) Try.underlying26 rfl (by kernel_rfl)) rfl ?_;exact⟨_,by first|rfl|(simp [errW_none,errW_some] <;> rfl)|(simp [*,errW_none,errW_some] <;> rfl),by (with_reducible repeat(first|apply Kd.R_alloc|apply Kd.R_drewN|apply Kd.R_drew));exact Kd.R_mono (Kd.R_far (p:=⟨gb149,1,none⟩) (Kd.R_far (p:=⟨gb149,0,none⟩) (Kd.R_types HO152.1 BK149.1 (by decide)) (fun _ hk=>hk.2) (.int .i64 3)) (fun _ hk=>hk.2) (.slice Ao9 y150.length co9)) (fun _ hk=>trivial),by repeat(first|(with_reducible first|exact HB.1|apply below_alloc|apply pw_below_drewN|apply below_drew1|refine below_set ?_ GE148.1|refine below_set ?_ GE149.1|refine below_set ?_ GE153.1)|exact HB.1)⟩

/-! ### impl_cubic_norm: function 42 -/
def impl_cubic_norm.f (a0_0:Int) (a0_1:Int):Option (Int):=some (wrap64 ((wrap64 ((wrap64 (a0_0*a0_0)) - (wrap64 (a0_0*a0_1))))+(wrap64 (a0_1*a0_1))))
set_option maxHeartbeats 8000000 in
set_option maxRecDepth 100000 in
theorem impl_cubic_norm.calls (a0_0:Int) (a0_1:Int) (r:Int) (w:World) (h:impl_cubic_norm.f a0_0 a0_1=some r):
    Calls Try.prog 42 #[.agg #[.int .i64 a0_0,.int .i64 a0_1]] w fun e w'=>e=.returned (.int .i64 r)∧Below w.heap.size w w':=by
  have hu54:=Try.underlying54;have HB:=qAm (Below.refl w.heap.size w);have H:(some (wrap64 ((wrap64 ((wrap64 (a0_0*a0_0)) - (wrap64 (a0_0*a0_1))))+(wrap64 (a0_1*a0_1)))))=some r:=h;clear h;obtain rfl:=Option.some.inj H;go_enter Try.func42,Try.ntmps42;go_wp2_with (first|((with_reducible refine gate_dst (N:=1) rfl ?_);refine box_event ?hg (N:=1) ?hd (cs:=#[.int .i64 a0_0,.int .i64 a0_1]) (t:=54) ?hr ?_;(case hd=>rfl);(case hg=>rfl);(case hr=>first|(go_simp;done)|(go_simp;rfl));intro gb155 hg w2 hbox hb;have n0_:=qAm (below_step qB16 hb);have n1_:=qAm (hbox);have n2_:=qAm ((by rw [hg];exact(below_size qB16):w.heap.size≤gb155));have n3_:=qAm ((by rw [hg];exact(below_size qB16):w.heap.size≤gb155));clear HB;have HB:=n0_;have BK155:=n1_;have GW155:=n2_;have GE155:=n3_;clear n0_ n1_ n2_ n3_;clear hb hbox hg;have hcz3_0:w2.cell? ⟨gb155,0,none⟩=some (.int .i64 a0_0):=(blk_cell BK155.1 0).trans rfl;have hcz3_1:w2.cell? ⟨gb155,1,none⟩=some (.int .i64 a0_1):=(blk_cell BK155.1 1).trans rfl;have hfz3_0:=blk_frozen BK155.1 0;have hfz3_1:=blk_frozen BK155.1 1));go_ret;exact⟨by first|rfl|(simp [errW_none,errW_some] <;> rfl)|(simp [*,errW_none,errW_some] <;> rfl),by repeat(first|(with_reducible first|exact HB.1|apply below_alloc|apply pw_below_drewN|apply below_drew1|refine below_set ?_ GE155.1)|exact HB.1)⟩

/-! ### impl_within: function 48 -/
def impl_within.f (a0:Int) (a1:Int) (a2:Int):Option (Bool):=if a1≤a0 then (some (decide (a0≤a2))) else (some false)
set_option maxHeartbeats 8000000 in
set_option maxRecDepth 100000 in
theorem impl_within.calls (a0:Int) (a1:Int) (a2:Int) (r:Bool) (w:World) (h:impl_within.f a0 a1 a2=some r):
    Calls Try.prog 48 #[.int .i64 a0,.int .i64 a1,.int .i64 a2] w fun e w'=>e=.returned (.bool r)∧Drawn0 w w':=by
  have H:(if a1≤a0 then (some (decide (a0≤a2))) else (some false))=some r:=h;clear h
  by_cases c4:a1≤a0
  · rw [if_pos c4] at H
    have c4b0:decide (a1≤a0)=true:=decide_eq_true c4;clear c4;obtain rfl:=Option.some.inj H;go_enter Try.func48,Try.ntmps48;go_wp2;go_ret;exact⟨by first|rfl|(simp;done)|(simp [*];done),by repeat(first|exact Drawn0.refl _|apply Drawn0.step)⟩
  · rw [if_neg c4] at H
    have c4b0:decide (a1≤a0)=false:=decide_eq_false c4;clear c4;obtain rfl:=Option.some.inj H;go_enter Try.func48,Try.ntmps48;go_wp2;go_ret;exact⟨by first|rfl|(simp;done)|(simp [*];done),by repeat(first|exact Drawn0.refl _|apply Drawn0.step)⟩

/-! ### impl_factorsOf: function 49 -/
mutual
def impl_factorsOf.l0:Nat→Int→List Int→Int→Option (List Int)
  |0,_,_,_=>none
  |k+1,x0,x3,x4=>if (wrap64 (x4*x4))≤x0 then (if x4=0 then (none) else (if (Int.tmod x0 x4)=0 then (if x3.length<17592186044416 then (impl_factorsOf.j1 k x0 (x3 ++ [x4]) x4) else (none)) else (impl_factorsOf.j1 k x0 x3 x4))) else (if x0 > 1 then (if x3.length<17592186044416 then (some (x3 ++ [x0])) else (none)) else (some x3))
def impl_factorsOf.j1:Nat→Int→List Int→Int→Option (List Int)
  |0,_,_,_=>none
  |k+1,x0,x3,x4=>impl_factorsOf.l1 k x0 x3 x4
def impl_factorsOf.l1:Nat→Int→List Int→Int→Option (List Int)
  |0,_,_,_=>none
  |k+1,x0,x3,x4=>if x4=0 then (none) else (if (Int.tmod x0 x4)=0 then (impl_factorsOf.l1 k (wrap64 (Int.tdiv x0 x4)) x3 x4) else (impl_factorsOf.l0 k x0 x3 (wrap64 (x4+1))))
end
def impl_factorsOf.f (k:Nat) (a0:Int):Option (List Int):=impl_factorsOf.l0 k a0 (([]:List Int)) 2
theorem impl_factorsOf.mono_l:∀k,(∀y0 y1 y2,LeO (impl_factorsOf.l0 k y0 y1 y2) (impl_factorsOf.l0 (k+1) y0 y1 y2))∧(∀y0 y1 y2,LeO (impl_factorsOf.j1 k y0 y1 y2) (impl_factorsOf.j1 (k+1) y0 y1 y2))∧(∀y0 y1 y2,LeO (impl_factorsOf.l1 k y0 y1 y2) (impl_factorsOf.l1 (k+1) y0 y1 y2))
  |0=>⟨fun _ _ _ r h=>by simp [impl_factorsOf.l0] at h,fun _ _ _ r h=>by simp [impl_factorsOf.j1] at h,fun _ _ _ r h=>by simp [impl_factorsOf.l1] at h⟩
  |k+1=>by
    obtain⟨ih0,ih1,ih2⟩:=impl_factorsOf.mono_l k;refine⟨?_,?_,?_⟩
    · intro y0 y1 y2
      unfold impl_factorsOf.l0;repeat' first
      |(with_reducible exact ih0 _ _ _)
      |(with_reducible exact ih1 _ _ _)
      |(with_reducible exact ih2 _ _ _)
      |(with_reducible exact LeO.refl _)
      |(with_reducible exact LeO.none _)
      |(with_reducible refine LeO.ite ?_ ?_)
      |(with_reducible refine LeO.bind ?_ (fun _=>?_))
      |exact ih0 _ _ _
      |exact ih1 _ _ _
      |exact ih2 _ _ _
      |exact LeO.none _
      |refine LeO.ite ?_ ?_
      |refine LeO.bind ?_ (fun _=>?_)
    · intro y0 y1 y2
      unfold impl_factorsOf.j1;repeat' first
      |(with_reducible exact ih0 _ _ _)
      |(with_reducible exact ih1 _ _ _)
      |(with_reducible exact ih2 _ _ _)
      |(with_reducible exact LeO.refl _)
      |(with_reducible exact LeO.none _)
      |(with_reducible refine LeO.ite ?_ ?_)
      |(with_reducible refine LeO.bind ?_ (fun _=>?_))
      |exact ih0 _ _ _
      |exact ih1 _ _ _
      |exact ih2 _ _ _
      |exact LeO.none _
      |refine LeO.ite ?_ ?_
      |refine LeO.bind ?_ (fun _=>?_)
    · intro y0 y1 y2
      unfold impl_factorsOf.l1;repeat' first
      |(with_reducible exact ih0 _ _ _)
      |(with_reducible exact ih1 _ _ _)
      |(with_reducible exact ih2 _ _ _)
      |(with_reducible exact LeO.refl _)
      |(with_reducible exact LeO.none _)
      |(with_reducible refine LeO.ite ?_ ?_)
      |(with_reducible refine LeO.bind ?_ (fun _=>?_))
      |exact ih0 _ _ _
      |exact ih1 _ _ _
      |exact ih2 _ _ _
      |exact LeO.none _
      |refine LeO.ite ?_ ?_
      |refine LeO.bind ?_ (fun _=>?_)
theorem impl_factorsOf.mono:∀a0 k,LeO (impl_factorsOf.f k a0) (impl_factorsOf.f (k+1) a0):=by
  intro a0 k;obtain⟨ih0,ih1,ih2⟩:=impl_factorsOf.mono_l k;unfold impl_factorsOf.f;repeat' first
      |(with_reducible exact ih0 _ _ _)
      |(with_reducible exact ih1 _ _ _)
      |(with_reducible exact ih2 _ _ _)
      |(with_reducible exact LeO.refl _)
      |(with_reducible exact LeO.none _)
      |(with_reducible refine LeO.ite ?_ ?_)
      |(with_reducible refine LeO.bind ?_ (fun _=>?_))
      |exact ih0 _ _ _
      |exact ih1 _ _ _
      |exact ih2 _ _ _
      |exact LeO.none _
      |refine LeO.ite ?_ ?_
      |refine LeO.bind ?_ (fun _=>?_)
set_option maxHeartbeats 8000000 in
set_option maxRecDepth 100000 in
theorem impl_factorsOf.calls (k:Nat) (a0:Int) (r:List Int) (w:World) (h:impl_factorsOf.f k a0=some r):
    Calls Try.prog 49 #[.int .i64 a0] w fun e w'=>∃v0_:Value,e=.returned (v0_)∧Kd.R (Kd.int .i64) 2 w' w.heap.size (fun _=>True) v0_ r∧Below w.heap.size w w':=by
  have HB:=qAm (Below.refl w.heap.size w);have H:(impl_factorsOf.l0 k a0 (([]:List Int)) 2)=some r:=h;clear h;obtain⟨y156,hy156⟩:∃y_:List Int,y_=(([]:List Int)):=⟨_,rfl⟩
  replace H:(impl_factorsOf.l0 k a0 y156 2)=some r:=by first|(rw [hy156];with_reducible exact H)|(have H2_:=(Option.bind_some _ _).symm.trans H;rw [hy156];with_reducible exact H2_)|(have H2_:=(Option.bind_some _ _).symm.trans H;with_reducible exact H2_)|with_reducible exact H|(rw [hy156];exact H)|exact H
  have Ny156:=qAm hy156;clear hy156;have H':=qAm H;clear H;go_enter Try.func49,Try.ntmps49;go_wp2_with (first|((with_reducible refine gate_dst (N:=5) rfl ?_);refine Kd.R_lit (Kd.int .i64) _ 2 ?hg (N:=5) ?hd (xs:=([]:List Int)) (inner:=[]) (ok:=fun _=>True) (okp:=fun _=>True) ?hr ?hp (fun _ hk=>hk) trivial (Below.refl _ _) (Nat.le_refl _) (by simp) ?_;(case hd=>rfl);(case hg=>rfl);(case hr=>first|(go_simp;done)|(go_simp;rfl));(case hp=>exact(Reps.none _ _));intro v157 w2 ho3 hb hg_ hnew_;clear hg_ hnew_;(first|rw [← Ny156.1] at ho3|(simp only [Int.reduceToNat] at ho3;rw [← Ny156.1] at ho3));have n0_:=qAm (Kd.R_lower ho3 (below_size qB16));have n1_:=qAm (below_step qB16 hb);clear HB;have HO158:=n0_;have HB:=n1_;clear n0_ n1_;clear hb ho3));try simp only [Act.put,qSa,qSc,qSb]
  go_loopg [0,3,4] k (fun kq v0 v3 v4 w'=>∃(x0_1:Int) (x3_1:List Int) (x4_1:Int),v0=.int .i64 x0_1∧v4=.int .i64 x4_1∧Aside0 (impl_factorsOf.l0 kq x0_1 x3_1 x4_1=some r)∧Aside0 (kq≤k)∧Aside0 (Kd.R (Kd.int .i64) 2 w' w.heap.size (fun _=>True) v3 x3_1)∧Aside0 (Below w.heap.size w w'))
  case atStart=>exact⟨(a0),(y156),(2),qB37,qB37,H',⟨Nat.le_refl _⟩,⟨by (with_reducible repeat(first|apply Kd.R_alloc|apply Kd.R_drewN|apply Kd.R_drew));exact HO158.1⟩,⟨by repeat(first|(with_reducible first|exact HB.1|apply below_alloc|apply pw_below_drewN|apply below_drew1)|exact HB.1)⟩⟩
  case round=>
    clear H';try clear p2
    obtain⟨x0_1,x3_1,x4_1,rfl,rfl,HA,HK1,HO_3,HB⟩:=hrel;cases gk with
    |zero=>exact absurd HA.1 (by simp [impl_factorsOf.l0])
    |succ k1=>
      have H:=HA.1;clear HA;simp only [impl_factorsOf.l0] at H
      by_cases c4:(wrap64 (x4_1*x4_1))≤x0_1
      · rw [if_pos c4] at H
        have c4b0:decide ((wrap64 (x4_1*x4_1))≤x0_1)=true:=decide_eq_true c4;clear c4
        by_cases c5:x4_1=0
        · rw [if_pos c5] at H
          exact absurd H (by simp)
        · rw [if_neg c5] at H
          have c5b0:(x4_1==0)=false:=beq_eq_false_iff_ne.mpr c5;have c5b1:(x4_1 !=0)=true:=bne_iff_ne.mpr c5;have HC6:=qAm H;clear H;go_upto_if 16 with (fail)
          go_cut [3] (fun v3 wc=>∃(kq:Nat) (x3_5:List Int),Aside0 (impl_factorsOf.j1 kq x0_1 x3_5 x4_1=some r)∧Aside0 (kq≤k1)∧Aside0 (Kd.R (Kd.int .i64) 2 wc w.heap.size (fun _=>True) v3 x3_5)∧Aside0 (Below w.heap.size w wc))
          case first=>
            have H:=HC6.1;clear HC6
            by_cases c7:(Int.tmod x0_1 x4_1)=0
            · rw [if_pos c7] at H
              have c7b0:((Int.tmod x0_1 x4_1)==0)=true:=beq_iff_eq.mpr c7;have c7b1:((Int.tmod x0_1 x4_1) !=0)=false:=bne_eq_false_iff_eq.mpr c7;clear c7
              (first|rw [c7b0]|(simp only [i64_w,i32_w];rw [c7b0])|skip)
              by_cases c8:x3_1.length<17592186044416
              · rw [if_pos c8] at H
                have LMc8:=qAm c8;clear c8;obtain⟨y162,hy162⟩:∃y_:List Int,y_=(x3_1 ++ [x4_1]):=⟨_,rfl⟩
                replace H:(impl_factorsOf.j1 k1 x0_1 y162 x4_1)=some r:=by first|(rw [hy162];with_reducible exact H)|(have H2_:=(Option.bind_some _ _).symm.trans H;rw [hy162];with_reducible exact H2_)|(have H2_:=(Option.bind_some _ _).symm.trans H;with_reducible exact H2_)|with_reducible exact H|(rw [hy162];exact H)|exact H
                have Ny162:=qAm hy162;clear hy162;have H':=qAm H;clear H;go_wp2_with (first|((with_reducible refine gate_builtin (b:=.append) (xs:=#[.tmp 17,.tmp 19]) rfl ?_);at_builtin;refine Kd.R_append (Kd.int .i64) (w0:=w) w.heap.size rfl (.tmp 17) (.tmp 19) 22 2 (.int .i64 0) 8 rfl Try.underlying22 info2 rfl (by decide) (by omega) u3 x3_1 x4_1 [.int .i64 x4_1] (fun _=>True) (fun _=>False) rfl rfl ?aP (fun _ hk=>hk.elim) ?aF ?aO ?aB ?aS ?aL ?_;(case aP=>exact rfl);(case aB=>exact qB16);(case aF=>exact(fun _ _=>trivial));(case aO=>exact qB33);(case aS=>exact(below_size qB16));(case aL=>have:=LMc8.1;omega);intro v163 w9 ho hb hg hat;rw [← Ny162.1] at ho;have n0_:=qAm (hb);have n1_:=qAm (ho);clear HB;clear HO_3;have HB:=n0_;have HO164:=n1_;clear n0_ n1_;clear ho hb hg hat));go_meet
                case rel=>exact⟨_,(y162),H',⟨by have:=HK1.1;first|omega|exact Nat.le_refl _⟩,⟨by (with_reducible repeat(first|apply Kd.R_alloc|apply Kd.R_drewN|apply Kd.R_drew));exact HO164.1⟩,⟨by repeat(first|(with_reducible first|exact HB.1|apply below_alloc|apply pw_below_drewN|apply below_drew1)|exact HB.1)⟩⟩
              · rw [if_neg c8] at H
                exact absurd H (by simp)
            · rw [if_neg c7] at H
              have c7b0:((Int.tmod x0_1 x4_1)==0)=false:=beq_eq_false_iff_ne.mpr c7;have c7b1:((Int.tmod x0_1 x4_1) !=0)=true:=bne_iff_ne.mpr c7
              (first|rw [c7b0]|(simp only [i64_w,i32_w];rw [c7b0])|skip)
              have H':=qAm H;clear H;go_wp2;go_meet
              case rel=>exact⟨_,(x3_1),H',⟨by have:=HK1.1;first|omega|exact Nat.le_refl _⟩,⟨by (with_reducible repeat(first|apply Kd.R_alloc|apply Kd.R_drewN|apply Kd.R_drew));exact HO_3.1⟩,⟨by repeat(first|(with_reducible first|exact HB.1|apply below_alloc|apply pw_below_drewN|apply below_drew1)|exact HB.1)⟩⟩
          case rest=>
            clear HC6;try clear p2
            try clear c4
            try clear c4b0
            try clear c5
            try clear c5b0
            try clear c5b1
            try clear p6
            try clear c7
            try clear c7b0
            try clear c7b1
            try clear c8
            try clear p2
            obtain⟨kq,x3_5,HA,HJ5,HO_3,HB⟩:=hcut;cases kq with
            |zero=>exact absurd HA.1 (by simp [impl_factorsOf.j1])
            |succ kj5=>
              have H:=HA.1;clear HA;simp only [impl_factorsOf.j1] at H;have H':=qAm H;clear H;go_wp2;try simp only [Act.put,qSa,qSc,qSb]
              go_loopg [0] kj5 (fun kq v0 w'=>∃(x0_3:Int),v0=.int .i64 x0_3∧Aside0 (impl_factorsOf.l1 kq x0_3 x3_5 x4_1=some r)∧Aside0 (kq≤kj5)∧Aside0 (Kd.R (Kd.int .i64) 2 w' w.heap.size (fun _=>True) u3 x3_5)∧Aside0 (Below w.heap.size w w'))
              case atStart=>exact⟨(x0_1),qB37,H',⟨Nat.le_refl _⟩,⟨by (with_reducible repeat(first|apply Kd.R_alloc|apply Kd.R_drewN|apply Kd.R_drew));exact HO_3.1⟩,⟨by repeat(first|(with_reducible first|exact HB.1|apply below_alloc|apply pw_below_drewN|apply below_drew1)|exact HB.1)⟩⟩
              case round=>
                clear H';try clear p2
                try clear c4
                try clear c4b0
                try clear c5
                try clear c5b0
                try clear c5b1
                try clear p6
                try clear c7
                try clear c7b0
                try clear c7b1
                try clear c8
                try clear p2
                try clear p6
                obtain⟨x0_3,rfl,HA,HK3,HO_3,HB⟩:=hrel;cases gk with
                |zero=>exact absurd HA.1 (by simp [impl_factorsOf.l1])
                |succ k3=>
                  have H:=HA.1;clear HA;simp only [impl_factorsOf.l1] at H
                  by_cases c10:x4_1=0
                  · rw [if_pos c10] at H
                    exact absurd H (by simp)
                  · rw [if_neg c10] at H
                    have c10b0:(x4_1==0)=false:=beq_eq_false_iff_ne.mpr c10;have c10b1:(x4_1 !=0)=true:=bne_iff_ne.mpr c10
                    by_cases c11:(Int.tmod x0_3 x4_1)=0
                    · rw [if_pos c11] at H
                      have c11b0:((Int.tmod x0_3 x4_1)==0)=true:=beq_iff_eq.mpr c11;have c11b1:((Int.tmod x0_3 x4_1) !=0)=false:=bne_eq_false_iff_eq.mpr c11;clear c11;have H':=qAm H;clear H;go_wp2
                      (first|go_roundg k3|((try simp only [add_plain] at *);go_roundg k3))
                      case measure=>have:=HK1.1;have:=HJ5.1;have:=HK3.1;omega
                      case rel=>exact⟨(wrap64 (Int.tdiv x0_3 x4_1)),qB37,H',⟨by have:=HK1.1;have:=HJ5.1;have:=HK3.1;omega⟩,⟨by (with_reducible repeat(first|apply Kd.R_alloc|apply Kd.R_drewN|apply Kd.R_drew));exact HO_3.1⟩,⟨by repeat(first|(with_reducible first|exact HB.1|apply below_alloc|apply pw_below_drewN|apply below_drew1)|exact HB.1)⟩⟩
                    · rw [if_neg c11] at H
                      have c11b0:((Int.tmod x0_3 x4_1)==0)=false:=beq_eq_false_iff_ne.mpr c11;have c11b1:((Int.tmod x0_3 x4_1) !=0)=true:=bne_iff_ne.mpr c11;have H':=qAm H;clear H;go_wp2
                      (first|go_roundg k3|((try simp only [add_plain] at *);go_roundg k3))
                      case measure=>have:=HK1.1;have:=HJ5.1;have:=HK3.1;omega
                      case rel=>exact⟨(x0_3),(x3_5),(wrap64 (x4_1+1)),qB37,qB37,H',⟨by have:=HK1.1;have:=HJ5.1;have:=HK3.1;omega⟩,⟨by (with_reducible repeat(first|apply Kd.R_alloc|apply Kd.R_drewN|apply Kd.R_drew));exact HO_3.1⟩,⟨by repeat(first|(with_reducible first|exact HB.1|apply below_alloc|apply pw_below_drewN|apply below_drew1)|exact HB.1)⟩⟩
      · rw [if_neg c4] at H
        have c4b0:decide ((wrap64 (x4_1*x4_1))≤x0_1)=false:=decide_eq_false c4;clear c4
        by_cases c12:x0_1 > 1
        · rw [if_pos c12] at H
          have c12b0:decide (1<x0_1)=true:=decide_eq_true c12;clear c12
          by_cases c13:x3_1.length<17592186044416
          · rw [if_pos c13] at H
            have LMc13:=qAm c13;clear c13;obtain⟨y159,hy159⟩:∃y_:List Int,y_=(x3_1 ++ [x0_1]):=⟨_,rfl⟩
            replace H:(some y159)=some r:=by first|(rw [hy159];with_reducible exact H)|(have H2_:=(Option.bind_some _ _).symm.trans H;rw [hy159];with_reducible exact H2_)|(have H2_:=(Option.bind_some _ _).symm.trans H;with_reducible exact H2_)|with_reducible exact H|(rw [hy159];exact H)|exact H
            have Ny159:=qAm hy159;clear hy159;obtain rfl:=Option.some.inj H;go_wp2_with (first|((with_reducible refine gate_builtin (b:=.append) (xs:=#[.tmp 30,.tmp 32]) rfl ?_);at_builtin;refine Kd.R_append (Kd.int .i64) (w0:=w) w.heap.size rfl (.tmp 30) (.tmp 32) 22 2 (.int .i64 0) 8 rfl Try.underlying22 info2 rfl (by decide) (by omega) u3 x3_1 x0_1 [.int .i64 x0_1] (fun _=>True) (fun _=>False) rfl rfl ?aP (fun _ hk=>hk.elim) ?aF ?aO ?aB ?aS ?aL ?_;(case aP=>exact rfl);(case aB=>exact qB16);(case aF=>exact(fun _ _=>trivial));(case aO=>exact qB33);(case aS=>exact(below_size qB16));(case aL=>have:=LMc13.1;omega);intro v160 w14 ho hb hg hat;rw [← Ny159.1] at ho;have n0_:=qAm (hb);have n1_:=qAm (ho);clear HB;clear HO_3;have HB:=n0_;have HO161:=n1_;clear n0_ n1_;clear ho hb hg hat));go_ret;exact⟨_,by first|rfl|(simp [errW_none,errW_some] <;> rfl)|(simp [*,errW_none,errW_some] <;> rfl),by (with_reducible repeat(first|apply Kd.R_alloc|apply Kd.R_drewN|apply Kd.R_drew));exact HO161.1,by repeat(first|(with_reducible first|exact HB.1|apply below_alloc|apply pw_below_drewN|apply below_drew1)|exact HB.1)⟩
          · rw [if_neg c13] at H
            exact absurd H (by simp)
        · rw [if_neg c12] at H
          have c12b0:decide (1<x0_1)=false:=decide_eq_false c12;clear c12;obtain rfl:=Option.some.inj H;go_wp2;go_ret;exact⟨_,by first|rfl|(simp [errW_none,errW_some] <;> rfl)|(simp [*,errW_none,errW_some] <;> rfl),by (with_reducible repeat(first|apply Kd.R_alloc|apply Kd.R_drewN|apply Kd.R_drew));exact HO_3.1,by repeat(first|(with_reducible first|exact HB.1|apply below_alloc|apply pw_below_drewN|apply below_drew1)|exact HB.1)⟩

end Go.Proofs.Ytejpliodhnglbaa.PFnExactPrimesOfNorm
