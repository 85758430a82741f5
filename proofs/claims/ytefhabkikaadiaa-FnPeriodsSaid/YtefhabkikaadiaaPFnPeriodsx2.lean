/- The functions that the law reaches, as plain functions, each with the proof that the program comes to it; no condition. Written by a program of this session (wip/mp.py) over the printing of the kit; what is marked HAND is told by hand. -/
import Derived.Test.YtefhabkikaadiaaPFnPeriodsx0
import Derived.Test.YtefhabkikaadiaaPFnPeriodsx1
namespace Go.Proofs.Ytefhabkikaadiaa.PFnPeriods
open Go.RowKit Go.Proofs.YtefhabkikaadiaaW.PrintWords Go.Proofs.YtefhabkikaadiaaW.PrintLast Go.Proofs.YtefhabkikaadiaaW.PrintMore
attribute [local go_sem] max2_int min2_int max_two min_two max_three min_three max_four min_four   -- for this text's walks alone
set_option linter.unusedVariables false
set_option linter.unusedSimpArgs false

/-! ### bits_Mul64: function 145 -/
def bits_Mul64.f (a0:Int) (a1:Int):Option (Int×Int):=some (IntKind.u64.wrap ((IntKind.u64.wrap ((IntKind.u64.wrap ((a0 / 4294967296)*(a1 / 4294967296)))+((IntKind.u64.wrap ((IntKind.u64.wrap ((a0 / 4294967296)*(Go.bits .and .u64 a1 4294967295)))+((IntKind.u64.wrap ((Go.bits .and .u64 a0 4294967295)*(Go.bits .and .u64 a1 4294967295))) / 4294967296))) / 4294967296)))+((IntKind.u64.wrap ((Go.bits .and .u64 (IntKind.u64.wrap ((IntKind.u64.wrap ((a0 / 4294967296)*(Go.bits .and .u64 a1 4294967295)))+((IntKind.u64.wrap ((Go.bits .and .u64 a0 4294967295)*(Go.bits .and .u64 a1 4294967295))) / 4294967296))) 4294967295)+(IntKind.u64.wrap ((Go.bits .and .u64 a0 4294967295)*(a1 / 4294967296))))) / 4294967296)),IntKind.u64.wrap (a0*a1))
set_option maxHeartbeats 8000000 in
set_option maxRecDepth 100000 in
theorem bits_Mul64.calls (a0:Int) (a1:Int) (r1:Int) (r2:Int) (w:World) (h:bits_Mul64.f a0 a1=some (r1,r2)):
    Calls Try.prog 145 #[.int .u64 a0,.int .u64 a1] w fun e w'=>e=.returned (.tuple #[.int .u64 r1,.int .u64 r2])∧Drawn0 w w':=by
  have H:(some (IntKind.u64.wrap ((IntKind.u64.wrap ((IntKind.u64.wrap ((a0 / 4294967296)*(a1 / 4294967296)))+((IntKind.u64.wrap ((IntKind.u64.wrap ((a0 / 4294967296)*(Go.bits .and .u64 a1 4294967295)))+((IntKind.u64.wrap ((Go.bits .and .u64 a0 4294967295)*(Go.bits .and .u64 a1 4294967295))) / 4294967296))) / 4294967296)))+((IntKind.u64.wrap ((Go.bits .and .u64 (IntKind.u64.wrap ((IntKind.u64.wrap ((a0 / 4294967296)*(Go.bits .and .u64 a1 4294967295)))+((IntKind.u64.wrap ((Go.bits .and .u64 a0 4294967295)*(Go.bits .and .u64 a1 4294967295))) / 4294967296))) 4294967295)+(IntKind.u64.wrap ((Go.bits .and .u64 a0 4294967295)*(a1 / 4294967296))))) / 4294967296)),IntKind.u64.wrap (a0*a1)))=some (r1,r2):=h;clear h;simp only [Option.some.injEq,Prod.mk.injEq] at H;obtain⟨rfl,rfl⟩:=H;go_enter Try.func145,Try.ntmps145;go_wp2;go_ret2;exact⟨by first|rfl|(simp;done)|(simp [*];done),by repeat(first|exact Drawn0.refl _|apply Drawn0.step)⟩

/-! ### bits_Mul: function 139 -/
def bits_Mul.f (a0:Int) (a1:Int):Option (Int×Int):=(bits_Mul64.f a0 a1).bind fun bt152=>(some (bt152.1,bt152.2))
set_option maxHeartbeats 8000000 in
set_option maxRecDepth 100000 in
theorem bits_Mul.calls (a0:Int) (a1:Int) (r1:Int) (r2:Int) (w:World) (h:bits_Mul.f a0 a1=some (r1,r2)):
    Calls Try.prog 139 #[.int .u64 a0,.int .u64 a1] w fun e w'=>e=.returned (.tuple #[.int .u64 r1,.int .u64 r2])∧Drawn0 w w':=by
  have H:((bits_Mul64.f a0 a1).bind fun bt152=>(some (bt152.1,bt152.2)))=some (r1,r2):=h;clear h;replace H:=qOb H;obtain⟨⟨t152,t153⟩,A30,H⟩:=H;replace H:(some (t152,t153))=some (r1,r2):=H;have A3:=qAm A30;clear A30;simp only [Option.some.injEq,Prod.mk.injEq] at H;obtain⟨rfl,rfl⟩:=H;go_enter Try.func139,Try.ntmps139;go_wp2_with (first|((with_reducible refine gate_callee (f:=145) rfl ?_);refine goesL_ (some 25) rfl rfl Try.func145 (by kernel_rfl) rfl #[.int .u64 a0,.int .u64 a1] rfl qB19 ?_;(with_reducible refine(bits_Mul64.calls a0 a1 t152 t153 _ A3.1).mono ?_);rintro e w' ⟨rfl,⟨nd,rfl⟩⟩;refine⟨_,rfl,?_⟩));go_ret2;exact⟨by first|rfl|(simp;done)|(simp [*];done),by repeat(first|exact Drawn0.refl _|apply Drawn0.step)⟩

/-! ### slices_Repeat_int64_int64: function 120 -/
def slices_Repeat_int64_int64.f (l0:List Int) (a1:Int):Option (List Int):=if l0.length=1∧0≤a1∧a1≤1048576 then some (List.replicate a1.toNat (rd l0 0)) else none
-- HAND
theorem hrp_w (n:Nat) (hn:n≤1048576):IntKind.u64.wrap (n:Int)=n:=by
  rw [IntKind.wrap_u64];omega
theorem hrp_and (n:Nat) (hn:n≤1048576):bits BinOp.and IntKind.u64 (n:Int) 4294967295=(n:Int):=by
  unfold bits
  simp
  rw [show IntKind.u64.bits=64 from rfl,Nat.mod_eq_of_lt (by omega),show(4294967295:Nat) % 2 ^ 64=2 ^ 32 - 1 by decide,Nat.and_two_pow_sub_one_eq_mod,Nat.mod_eq_of_lt (by omega)];exact hrp_w n hn
theorem hrp_mul64 (n:Nat) (hn:n≤1048576) (w:World):
    Calls Try.prog 145 #[.int .u64 1,.int .u64 n] w fun e w'=>e=.returned (.tuple #[.int .u64 0,.int .u64 n])∧Drawn0 w w':=by
  go_enter Try.func145,Try.ntmps145;go_wp2;go_ret2;refine⟨?_,?_⟩
  · simp
    have e1:bits BinOp.and IntKind.u64 1 4294967295=1:=hrp_and 1 (by omega);have e2:(n:Int) / 4294967296=0:=by omega
    rw [e1,hrp_and n hn,e2,Int.one_mul,hrp_w n hn,e2]
    decide +kernel
  · repeat(first|exact Drawn0.refl _|apply Drawn0.step)
theorem hrp_mul (a b:Int) (n:Nat) (ha:a=1) (hb:b=n) (hn:n≤1048576) (w:World):
    Calls Try.prog 139 #[.int .u64 a,.int .u64 b] w fun e w'=>e=.returned (.tuple #[.int .u64 0,.int .u64 n])∧Drawn0 w w':=by
  subst ha hb;go_enter Try.func139,Try.ntmps139;go_wp2_with (go_at_call 145;refine(hrp_mul64 n hn _).mono ?_;rintro e w' ⟨rfl,⟨nd,rfl⟩⟩);go_ret2;exact⟨by first|rfl|(simp;done),by repeat(first|exact Drawn0.refl _|exact⟨_,rfl⟩|apply Drawn0.step)⟩
theorem hrp_info:(Try.prog.info? 2).map (fun i=>(i.zero,i.size,i.bytes))=some (some (.int .i64 0),1,8):=by kernel_rfl
theorem hrp_size:(Try.prog.info? 2).map (·.size)=some 1:=by kernel_rfl
/-- The row that is filled: its first k cells are x. -/
def hrp_row (w:World) (base g n cap k:Nat) (x:Int):Prop:=
  (base≤g∧n≤cap∧cap≤maxLen)∧∃cur:List Value,w.heap[g]? =some (.cells cur.toArray 2 (0,0))∧cur.length=cap∧∀j,j<k→cur[j]? =some (.int .i64 x)
theorem hrp_made {w:World} {base m:Nat} {ok:Nat→Prop} {v:Value} {n:Nat} (x:Int) (h:Kd.R (Kd.int .i64) 2 w base ok v (List.replicate n 0)) (hb:∃b,v.ownBlock=some b∧m≤b):
    ∃g cap,v=.slice (some ⟨g,0,none⟩) n cap∧hrp_row w base g n cap 0 x:=by
  obtain⟨_,inner,⟨_,ho⟩,_⟩:=h;rw [List.length_replicate] at ho
  rcases ho with ⟨rfl,_⟩|⟨g,cap,cur,rfl,hg,hh,h1,h2,h3,_⟩
  · obtain⟨b,hb,_⟩:=hb
    simp [Value.ownBlock] at hb
  · exact⟨g,cap,rfl,⟨hg,h1,h2⟩,cur.toList,by simpa using hh,by have:cur.size=cap*1:=h3;simp;omega,fun j hj=>by omega⟩
theorem hrp_splice (L:List Value) (k m:Nat) (v:Value) (h:k+m≤L.length) (hL:∀j,j<k→L[j]? =some v):
    (splice L k (List.replicate m v)).length=L.length∧∀j,j<k+m→(splice L k (List.replicate m v))[j]? =some v:=by
  refine⟨length_splice _ _ _ (by simpa using h),fun j hj=>?_⟩;unfold splice
  by_cases h1:j<k
  · rw [List.getElem?_append_left (by simp;omega),List.getElem?_take_of_lt h1]
    exact hL j h1
  · rw [List.getElem?_append_right (by simp;omega),List.length_take,Nat.min_eq_left (by omega),List.getElem?_append_left (by simp;omega),List.getElem?_replicate]
    rw [if_pos (by omega)]
theorem hrp_src {w w4:World} {A0:Option Addr} {x:Int} {c1 n:Nat} (hr:Kd.C (Kd.int .i64) w A0 [x].length [x]) (hb:Below w.heap.size w w4) (hc:c1=min 1 n) (dp:Option Addr) (hp:0<(List.replicate c1 (Value.int .i64 x)).length):
    dp=dp∧∃ad,A0=some ad∧∀j v,(List.replicate c1 (Value.int .i64 x))[j]? =some v→w4.cell? (ad.add j)=some v:=by
  obtain⟨ad,ha,hx⟩:=Kd.at_int (Kd.C_below hr hb) 0 (by omega) (by simp);refine⟨rfl,ad,ha,fun j v hv=>?_⟩;rw [List.getElem?_replicate] at hv
  split at hv
  · obtain rfl:j=0:=by omega
    obtain rfl:=Option.some.inj hv
    simpa [rd] using hx
  · cases hv
theorem hrp_own {w:World} {g n k m:Nat} {x:Int} {cur:List Value} (hh:w.heap[g]? =some (.cells cur.toArray 2 (0,0))) (hx:∀j,j<k→cur[j]? =some (.int .i64 x)) (hm:m=min k (n - k)) (hp:0<(List.replicate m (Value.int .i64 x)).length):
    (some ⟨g,k,none⟩:Option Addr)=some ⟨g,k,none⟩∧∃ad,(some ⟨g,0,none⟩:Option Addr)=some ad∧∀j v,(List.replicate m (Value.int .i64 x))[j]? =some v→w.cell? (ad.add j)=some v:=by
  refine⟨rfl,_,rfl,fun j v hv=>?_⟩;rw [List.getElem?_replicate] at hv
  split at hv
  · obtain rfl:=Option.some.inj hv
    have hj:j<k:=by omega
    have ha:(⟨g,0,none⟩:Addr).add j=⟨g,j,none⟩:=by
      unfold Addr.add
      split
      · rename_i h0;rw [h0]
      · simp
    rw [ha]
    simp [World.cell?,hh,hx j hj]
  · cases hv
theorem hrp_filled {w5:World} {base g n cap k m:Nat} {x:Int} {cur:List Value} (h1:base≤g∧n≤cap∧cap≤maxLen) (hl:cur.length=cap) (hk:k+m≤cap) (hx:∀j,j<k→cur[j]? =some (.int .i64 x))
    (hg:Hid (w5.heap[g]? =some (.cells (splice cur k (List.replicate m (.int .i64 x))).toArray 2 (0,0)))):hrp_row w5 base g n cap (k+m) x:=by
  obtain⟨e1,e2⟩:=hrp_splice cur k m (.int .i64 x) (by omega) hx;exact⟨h1,_,hg,by omega,e2⟩
theorem hrp_done {w:World} {base g n cap:Nat} {x:Int} (h:hrp_row w base g n cap n x):
    Kd.R (Kd.int .i64) 2 w base (fun _=>True) (.slice (some ⟨g,0,none⟩) n cap) (List.replicate n x):=by
  obtain⟨⟨h1,h2,h3⟩,cur,hh,hl,hx⟩:=h;refine Kd.R_of_own ?_ (fun _ _=>trivial);refine⟨by simp [encs],.inr ⟨g,cap,cur.toArray,by simp,h1,hh,by simpa using h2,h3,by simp;omega,?_⟩⟩;refine List.ext_getElem? fun j=>?_
  simp only [List.length_replicate,Nat.mul_one,encs,List.map_replicate]
  by_cases hj:j<n
  · rw [List.getElem?_take_of_lt hj,List.getElem?_replicate,if_pos hj]
    exact hx j hj
  · rw [List.getElem?_eq_none (by simp;omega),List.getElem?_eq_none (by simp;omega)]
set_option maxHeartbeats 8000000 in
set_option maxRecDepth 100000 in
theorem slices_Repeat_int64_int64.calls (A0:Option Addr) (c0:Nat) (l0:List Int) (a1:Int) (r:List Int) (w:World) (hr0:Kd.C (Kd.int .i64) w A0 l0.length l0) (hc0:l0.length≤c0) (h:slices_Repeat_int64_int64.f l0 a1=some r):
    Calls Try.prog 120 #[.slice A0 l0.length c0,.int .i64 a1] w fun e w'=>∃v0_:Value,e=.returned (v0_)∧Kd.R (Kd.int .i64) 2 w' w.heap.size (fun _=>True) v0_ r∧Below w.heap.size w w':=by
  have HR0:=qAm hr0;have HC0:=qAm hc0;have HB:=qAm (Below.refl w.heap.size w);unfold slices_Repeat_int64_int64.f at h
  by_cases c:l0.length=1∧0≤a1∧a1≤1048576
  · rw [if_pos c] at h
    obtain rfl:=Option.some.inj h;clear h;obtain⟨n,rfl⟩:∃n:Nat,a1=n:=⟨a1.toNat,by omega⟩
    obtain⟨x,rfl⟩:∃x,l0=[x]:=List.length_eq_one_iff.mp c.1;have hn:n≤1048576:=by omega
    have b1:decide ((n:Int)<0)=false:=decide_eq_false (by omega);have b2:decide ((9223372036854775807:Int)<n)=false:=decide_eq_false (by omega);have b3:wrap64 (n:Int)=n:=by rw [wrap64];omega
    have LN:=qAm hn;obtain⟨c1,hc1⟩:∃c1,c1=min 1 n:=⟨_,rfl⟩
    have LC:=qAm hc1;clear c hr0 hc0 hn hc1;go_enter Try.func120,Try.ntmps120;go_wp2_with (first
      |(go_at_call 139;refine(hrp_mul _ _ n rfl (hrp_w n LN.1) LN.1 _).mono ?_;rintro e w' ⟨rfl,⟨nd,rfl⟩⟩)
      |((with_reducible refine gate_dst (N:=30) rfl ?_);refine Kd.R_make (Kd.int .i64) _ 2 rfl (N:=30) rfl 22 _ _ rfl (wrap64 (n:Int)) rfl rfl Try.underlying22 (.int .i64 0) 8 hrp_info rfl (by decide) (by omega) 0 (ok:=fun _=>True) (okp:=fun _=>True) rfl (fun _ hk=>hk) trivial (by rw [b3];omega) (by rw [b3];have:=LN.1;omega) (Below.refl _ _) (Nat.le_refl _) ?_;intro v4 w4 ho hb hg_ hnew_;rw [show(wrap64 (n:Int)).toNat=n by rw [b3];rfl] at ho;obtain⟨g,cap,rfl,HW⟩:=hrp_made x ho hnew_;have HG:Aside0 (hrp_row w4 w.heap.size g n cap 0 x):=qAm HW;have HB':=qAm (below_step (pw_below_drewN HB.1 _) hb);clear HB;have HB:=HB';clear HB' ho hb hg_ hnew_ HW;obtain⟨cur,hcur⟩:=HG.1.2;have HH:=qAm hcur;clear hcur)
      |((with_reducible refine gate_builtin (b:=.copy) (xs:=#[.tmp 31,.tmp 32]) rfl ?_);refine wpList_copy_splice rfl (.tmp 31) (.tmp 32) 22 22 rfl 2 Try.underlying22 hrp_size (some ⟨g,0,none⟩) A0 n cap 1 c0 rfl rfl g 0 cur 2 HH.1.1 (List.replicate c1 (.int .i64 x)) ?h1 ?h2 ?h3 ?h4 w.heap.size w HB.1 HG.1.1.1 ?h5;(case h1=>rw [List.length_replicate];exact LC.1);(case h2=>exact hrp_src HR0.1 HB.1 LC.1 _);(case h3=>have:=LC.1;have:=HG.1.1.2.1;have:=HH.1.2.1;rw [List.length_replicate];omega);(case h4=>intro u hu;rw [List.eq_of_mem_replicate hu];rfl);intro w5 hg5 hb5;have HG5:=qAm (hrp_filled (k:=0) (m:=c1) HG.1.1 HH.1.2.1 (by have:=LC.1;have:=HG.1.1.2.1;omega) HH.1.2.2 hg5);clear HB HG HH;have HB:=qAm hb5;clear hb5 hg5;(try simp only [List.length_replicate]))
      )
    go_loopg [8] (n+1) (fun kq v8 w'=>∃k:Nat,v8=.int .i64 k∧Aside0 (n+1≤kq+k∧k≤n∧(1≤n→1≤k))∧Aside0 (hrp_row w' w.heap.size g n cap k x)∧Aside0 (Below w.heap.size w w'))
    case atStart=>exact⟨c1,rfl,⟨by have:=LC.1;omega,by have:=LC.1;omega,by have:=LC.1;omega⟩,by simpa using HG5,HB⟩
    case round=>
      obtain⟨k,rfl,HA,HK,HB6⟩:=hrel
      by_cases hlt:k<n
      · obtain⟨m,hm⟩:∃m,m=min k (n - k):=⟨_,rfl⟩
        have LM:=qAm hm;obtain⟨cur,hcur⟩:=HK.1.2;have HH:=qAm hcur;have hp0:(0:Int)≤(k:Int):=by omega
        have hp1:(k:Int)≤(n:Int):=by omega
        have hp2:((k:Int)).toNat=k:=by omega
        have hp3:k≤n:=by omega
        have hp4:k≤cap:=by have:=HK.1.1.2.1;omega
        have hp5:¬cap=k:=by have:=HK.1.1.2.1;omega
        clear hm hcur HB;go_wp2_with fail;go_region_law (refine step_copy_splice rfl (.tmp 41) (.tmp 44) 22 22 rfl 2 Try.underlying22 hrp_size (some ⟨g,k,none⟩) (some ⟨g,0,none⟩) (n - k) (cap - k) k cap (by simp [Act.eval,Act.put] <;> omega) (by simp [Act.eval,Act.put]) g k cur 2 HH.1.1 (List.replicate m (.int .i64 x)) (by rw [List.length_replicate];exact LM.1) (hrp_own HH.1.1 HH.1.2.2 LM.1) (by have:=LM.1;have:=HH.1.2.1;have:=HK.1.1.2.1;rw [List.length_replicate];omega) (fun u hu=>by rw [List.eq_of_mem_replicate hu];rfl) w.heap.size w (by repeat(first|exact HB6.1|apply below_drew1)) HK.1.1.1 ?_;intro w5 hg5 hb5);have HK5:=qAm (hrp_filled (k:=k) (m:=m) HK.1.1 HH.1.2.1 (by have:=LM.1;have:=HK.1.1.2.1;omega) HH.1.2.2 hg5);have HB5:=qAm hb5;have hmr:IntKind.i64.wrap ((k:Int)+(m:Int))=(k:Int)+(m:Int):=by have:=LM.1;have:=LN.1;rw [IntKind.wrap_i64];omega
        clear hb5 hg5 HK HB6;go_wp2;go_roundg (gk - 1)
        case measure=>have:=HA.1;omega
        case rel=>exact⟨k+m,by simp [hmr],⟨by have:=HA.1;have:=LM.1;omega,by have:=HA.1;have:=LM.1;omega,by have:=HA.1;have:=LM.1;omega⟩,HK5,HB5⟩
      · go_wp2
        go_ret;have e:k=n:=by have:=HA.1.2.1;omega
        subst e;exact⟨_,rfl,by simpa [rd] using hrp_done HK.1,HB6.1⟩
  · rw [if_neg c] at h
    cases h

/-! ### impl_indices: function 123 -/
mutual
def impl_indices.l0:Nat→Int→Int→Option (List Int×Int)
  |0,_,_=>none
  |k+1,x0,x4=>(slices_Repeat_int64_int64.f (([(-1)]:List Int)) x0).bind fun t160=>(impl_indices.l1 k x0 x4 t160 1 0)
def impl_indices.l1:Nat→Int→Int→List Int→Int→Int→Option (List Int×Int)
  |0,_,_,_,_,_=>none
  |k+1,x0,x4,x5,x6,x7=>if 0≤x6 then (if x6<(x5.length:Int) then (if (rd x5 x6)<0 then (if x0=0 then (none) else (impl_indices.l1 k x0 x4 (x5.set (x6:Int).toNat x7) (Int.tmod (wrap64 (x6*x4)) x0) (wrap64 (x7+1)))) else (if x7=(wrap64 (x0 - 1)) then (some (x5,x4)) else (impl_indices.l0 k x0 (wrap64 (x4+1))))) else (none)) else (none)
end
def impl_indices.f (k:Nat) (a0:Int):Option (List Int×Int):=impl_indices.l0 k a0 1
theorem impl_indices.mono_l:∀k,(∀y0 y1,LeO (impl_indices.l0 k y0 y1) (impl_indices.l0 (k+1) y0 y1))∧(∀y0 y1 y2 y3 y4,LeO (impl_indices.l1 k y0 y1 y2 y3 y4) (impl_indices.l1 (k+1) y0 y1 y2 y3 y4))
  |0=>⟨fun _ _ r h=>by simp [impl_indices.l0] at h,fun _ _ _ _ _ r h=>by simp [impl_indices.l1] at h⟩
  |k+1=>by
    obtain⟨ih0,ih1⟩:=impl_indices.mono_l k;refine⟨?_,?_⟩
    · intro y0 y1
      unfold impl_indices.l0;repeat' first
      |(with_reducible exact ih0 _ _)
      |(with_reducible exact ih1 _ _ _ _ _)
      |(with_reducible exact LeO.refl _)
      |(with_reducible exact LeO.none _)
      |(with_reducible refine LeO.ite ?_ ?_)
      |(with_reducible refine LeO.bind ?_ (fun _=>?_))
      |exact ih0 _ _
      |exact ih1 _ _ _ _ _
      |exact LeO.none _
      |refine LeO.ite ?_ ?_
      |refine LeO.bind ?_ (fun _=>?_)
    · intro y0 y1 y2 y3 y4
      unfold impl_indices.l1;repeat' first
      |(with_reducible exact ih0 _ _)
      |(with_reducible exact ih1 _ _ _ _ _)
      |(with_reducible exact LeO.refl _)
      |(with_reducible exact LeO.none _)
      |(with_reducible refine LeO.ite ?_ ?_)
      |(with_reducible refine LeO.bind ?_ (fun _=>?_))
      |exact ih0 _ _
      |exact ih1 _ _ _ _ _
      |exact LeO.none _
      |refine LeO.ite ?_ ?_
      |refine LeO.bind ?_ (fun _=>?_)
theorem impl_indices.mono:∀a0 k,LeO (impl_indices.f k a0) (impl_indices.f (k+1) a0):=by
  intro a0 k;obtain⟨ih0,ih1⟩:=impl_indices.mono_l k;unfold impl_indices.f;repeat' first
      |(with_reducible exact ih0 _ _)
      |(with_reducible exact ih1 _ _ _ _ _)
      |(with_reducible exact LeO.refl _)
      |(with_reducible exact LeO.none _)
      |(with_reducible refine LeO.ite ?_ ?_)
      |(with_reducible refine LeO.bind ?_ (fun _=>?_))
      |exact ih0 _ _
      |exact ih1 _ _ _ _ _
      |exact LeO.none _
      |refine LeO.ite ?_ ?_
      |refine LeO.bind ?_ (fun _=>?_)
set_option maxHeartbeats 8000000 in
set_option maxRecDepth 100000 in
theorem impl_indices.calls (k:Nat) (a0:Int) (r1:List Int) (r2:Int) (w:World) (h:impl_indices.f k a0=some (r1,r2)):
    Calls Try.prog 123 #[.int .i64 a0] w fun e w'=>∃v0_:Value,e=.returned (.tuple #[v0_,.int .i64 r2])∧Kd.R (Kd.int .i64) 2 w' w.heap.size (fun _=>True) v0_ r1∧Below w.heap.size w w':=by
  have HB:=qAm (Below.refl w.heap.size w);have H:(impl_indices.l0 k a0 1)=some (r1,r2):=h;clear h;have H':=qAm H;clear H;go_enter Try.func123,Try.ntmps123;go_wp2;try simp only [Act.put,qSa,qSc,qSb]
  go_loopg [4] k (fun kq v4 w'=>∃(x4_1:Int),v4=.int .i64 x4_1∧Aside0 (impl_indices.l0 kq a0 x4_1=some (r1,r2))∧Aside0 (kq≤k)∧Aside0 (Below w.heap.size w w'))
  case atStart=>exact⟨(1),qB57,H',⟨Nat.le_refl _⟩,⟨by repeat(first|(with_reducible first|exact HB.1|apply below_alloc|apply pw_below_drewN|apply below_drew1)|exact HB.1)⟩⟩
  case round=>
    clear H';try clear c1
    obtain⟨x4_1,rfl,HA,HK1,HB⟩:=hrel;cases gk with
    |zero=>exact absurd HA.1 (by simp [impl_indices.l0])
    |succ k1=>
      have H:=HA.1;clear HA;simp only [impl_indices.l0] at H;obtain⟨y157,hy157⟩:∃y_:List Int,y_=(([(-1)]:List Int)):=⟨_,rfl⟩
      replace H:((slices_Repeat_int64_int64.f y157 a0).bind fun t160=>(impl_indices.l1 k1 a0 x4_1 t160 1 0))=some (r1,r2):=by first|(rw [hy157];with_reducible exact H)|(have H2_:=(Option.bind_some _ _).symm.trans H;rw [hy157];with_reducible exact H2_)|(have H2_:=(Option.bind_some _ _).symm.trans H;with_reducible exact H2_)|with_reducible exact H|(rw [hy157];exact H)|exact H
      have Ny157:=qAm hy157;clear hy157;replace H:=qOb H;obtain⟨t160,A20,H⟩:=H;replace H:(impl_indices.l1 k1 a0 x4_1 t160 1 0)=some (r1,r2):=H;have A2:=qAm A20;clear A20;have H':=qAm H;clear H;go_wp2_with (first|((with_reducible refine gate_dst (N:=10) rfl ?_);refine Kd.R_lit (Kd.int .i64) _ 2 ?hg (N:=10) ?hd (xs:=([(-1)]:List Int)) (inner:=[.int .i64 (-1)]) (ok:=fun _=>True) (okp:=fun _=>True) ?hr ?hp (fun _ hk=>hk) trivial (Below.refl _ _) (Nat.le_refl _) (by simp) ?_;(case hd=>rfl);(case hg=>rfl);(case hr=>first|(go_simp;done)|(go_simp;rfl));(case hp=>exact(Reps.one (show Kd.M (Kd.int .i64) _ _ _ (-1) [.int .i64 (-1)] from rfl) (Reps.none _ _)));intro v158 w3 ho4 hb hg_ hnew_;clear hg_ hnew_;(first|rw [← Ny157.1] at ho4|(simp only [Int.reduceToNat] at ho4;rw [← Ny157.1] at ho4));have n0_:=qAm (Kd.R_lower ho4 (below_size qB23));have n1_:=qAm (below_step qB23 hb);clear HB;have HO159:=n0_;have HB:=n1_;clear n0_ n1_;clear hb ho4;obtain⟨Ao5,co5,eo5⟩:=Kd.R_slice HO159.1;subst eo5)|((with_reducible refine gate_callee (f:=120) rfl ?_);refine goesL_ (some 12) rfl rfl Try.func120 (by kernel_rfl) rfl #[.slice Ao5 y157.length co5,.int .i64 a0] rfl qB19 ?_;(with_reducible refine(slices_Repeat_int64_int64.calls _ _ y157 a0 t160 _ ?side1 ?side2 A2.1).mono ?_);(case side1=>repeat(first|exact(Kd.R_reads' HO159.1).2.2|(with_reducible refine Kd.C_alloc ?_ _)|(with_reducible refine Kd.C_drewN ?_ _)|(with_reducible refine Kd.C_drew ?_)));(case side2=>exact(Kd.R_reads' HO159.1).2.1);rintro e w6 ⟨v161,rfl,ho0,hb⟩;refine⟨_,rfl,?_⟩;have n0_:=qAm (Kd.R_elder' qB29 (Kd.R_base ho0) hb);have n1_:=qAm (Kd.R_lower (Kd.R_new' ho0 (Kd.R_lt qB29)) (below_size qB23));have n2_:=qAm (below_step qB23 hb);clear HO159;clear HB;have HO159:=n0_;have HO162:=n1_;have HB:=n2_;clear n0_ n1_ n2_;(try clear hb);(try clear hb2);(try clear hk);(try clear hi);(try clear ho0)));try simp only [Act.put,qSa,qSc,qSb]
      go_loopg [6,7] k1 (fun kq v6 v7 w'=>∃(x5_2:List Int) (x6_2:Int) (x7_2:Int),v6=.int .i64 x6_2∧v7=.int .i64 x7_2∧Aside0 (impl_indices.l1 kq a0 x4_1 x5_2 x6_2 x7_2=some (r1,r2))∧Aside0 (kq≤k1)∧Aside0 (Kd.R (Kd.int .i64) 2 w' w.heap.size (fun _=>True) v161 x5_2)∧Aside0 (Below w.heap.size w w'))
      case atStart=>exact⟨(t160),(1),(0),qB57,qB57,H',⟨Nat.le_refl _⟩,⟨by (with_reducible repeat(first|apply Kd.R_alloc|apply Kd.R_drewN|apply Kd.R_drew));exact Kd.R_mono HO162.1 (fun _ hk=>trivial)⟩,⟨by repeat(first|(with_reducible first|exact HB.1|apply below_alloc|apply pw_below_drewN|apply below_drew1)|exact HB.1)⟩⟩
      case round=>
        clear H';try clear c1
        try clear p2
        obtain⟨x5_2,x6_2,x7_2,rfl,rfl,HA,HK2,HO_5,HB⟩:=hrel;cases gk with
        |zero=>exact absurd HA.1 (by simp [impl_indices.l1])
        |succ k2=>
          have H:=HA.1;clear HA;simp only [impl_indices.l1] at H
          by_cases c7:0≤x6_2
          · rw [if_pos c7] at H
            have c7b0:decide (0≤x6_2)=true:=decide_eq_true c7;clear c7
            by_cases c8:x6_2<(x5_2.length:Int)
            · rw [if_pos c8] at H
              have c8b0:decide (x6_2<(x5_2.length:Int))=true:=decide_eq_true c8;clear c8
              by_cases c9:(rd x5_2 x6_2)<0
              · rw [if_pos c9] at H
                have c9b0:decide ((rd x5_2 x6_2)<0)=true:=decide_eq_true c9;clear c9;obtain⟨y164,hy164⟩:∃y_:List Int,y_=(x5_2.set (x6_2:Int).toNat x7_2):=⟨_,rfl⟩
                replace H:(if a0=0 then (none) else (impl_indices.l1 k2 a0 x4_1 y164 (Int.tmod (wrap64 (x6_2*x4_1)) a0) (wrap64 (x7_2+1))))=some (r1,r2):=by first|(rw [hy164];with_reducible exact H)|(have H2_:=(Option.bind_some _ _).symm.trans H;rw [hy164];with_reducible exact H2_)|(have H2_:=(Option.bind_some _ _).symm.trans H;with_reducible exact H2_)|with_reducible exact H|(rw [hy164];exact H)|exact H
                have Ny164:=qAm hy164;clear hy164
                by_cases c11:a0=0
                · rw [if_pos c11] at H
                  exact absurd H (by simp)
                · rw [if_neg c11] at H
                  have c11b0:(a0==0)=false:=beq_eq_false_iff_ne.mpr c11;have c11b1:(a0 !=0)=true:=bne_iff_ne.mpr c11;have H':=qAm H;clear H;obtain⟨Ao12,co12,eo12⟩:=Kd.R_slice HO_5.1;subst eo12;have p163:0≤(x6_2:Int):=of_decide_eq_true qB56;have q163:x6_2<(x5_2.length:Int):=of_decide_eq_true qB56;obtain⟨ad163,e163,hx163_0⟩:=Kd.at_int (Kd.R_reads' HO_5.1).2.2 x6_2 p163 q163;cases e163
                  replace p163:=eq_true p163;replace q163:=eq_true q163;have p10:0≤(x6_2:Int):=of_decide_eq_true qB56;have q10:(x6_2:Int)<((x5_2.length:Int):Int):=of_decide_eq_true qB56;obtain⟨go10,co10,eo10,gb10,gl10,cl10,HG10⟩:=Kd.R_form HO_5.1 (by omega)
                  (first|cases eo10|(injection eo10 with ea_ en_ ec_;(first|subst ea_|(injection ea_ with ea_;subst ea_));subst ec_;clear en_))
                  have GB10:=qAm gb10;have GG10:=qAm HG10;clear gb10 gl10 HG10
                  (first|simp only [add_plain] at hx163_0|skip)
                  obtain⟨hx10_0,hf10_0⟩:=Kd.R_celln 0 HO_5.1 (x6_2:Int) p10 q10;replace p10:=eq_true p10;replace q10:=eq_true q10;have HP13:=Kd.R_putg HO_5.1 (x6_2:Int) x7_2;go_wp2_with (first|((with_reducible refine gate_store (t:=2) (p:=21) rfl ?_);refine store_event (t:=2) (p:=21) (v:=?vo_w14) (w1:=(wr.setCell ⟨go10,(x6_2:Int).toNat,none⟩ (.int .i64 x7_2))) ?hg ?ho ?hn ?hr ?_;(case ho=>rfl);(case hg=>rfl);(case hn=>rfl);(case hr=>first|(go_simp;done)|(go_simp;rfl));intro w14 hw;have hg:wr.grownBy w14 (some go10):=(by rw [hw];exact HP13.2);have hp_:Kd.R (Kd.int .i64) 2 w14 w.heap.size (fun _=>True) (.slice (some ⟨go10,0,none⟩) x5_2.length co12) y164:=(by rw [hw,Ny164.1];exact HP13.1);clear HP13;have n0_:=qAm (hp_);have n1_:=qAm ((by rw [hw];exact below_set (HB.1) GB10.1:Below w.heap.size w w14));clear HO_5;clear HB;have HO_5:=n0_;have HB:=n1_;clear n0_ n1_;clear hg hw hp_))
                  (first|go_roundg k2|((try simp only [add_plain] at *);go_roundg k2))
                  case measure=>have:=HK1.1;have:=HK2.1;omega
                  case rel=>exact⟨(y164),(Int.tmod (wrap64 (x6_2*x4_1)) a0),(wrap64 (x7_2+1)),qB57,qB57,H',⟨by have:=HK1.1;have:=HK2.1;omega⟩,⟨by (with_reducible repeat(first|apply Kd.R_alloc|apply Kd.R_drewN|apply Kd.R_drew));exact HO_5.1⟩,⟨by repeat(first|(with_reducible first|exact HB.1|apply below_alloc|apply pw_below_drewN|apply below_drew1)|exact HB.1)⟩⟩
              · rw [if_neg c9] at H
                have c9b0:decide ((rd x5_2 x6_2)<0)=false:=decide_eq_false c9;clear c9
                by_cases c15:x7_2=(wrap64 (a0 - 1))
                · rw [if_pos c15] at H
                  have c15b0:(x7_2==(wrap64 (a0 - 1)))=true:=beq_iff_eq.mpr c15;have c15b1:(x7_2 !=(wrap64 (a0 - 1)))=false:=bne_eq_false_iff_eq.mpr c15;clear c15;simp only [Option.some.injEq,Prod.mk.injEq] at H;obtain⟨rfl,rfl⟩:=H;obtain⟨Ao16,co16,eo16⟩:=Kd.R_slice HO_5.1;subst eo16;have p163:0≤(x6_2:Int):=of_decide_eq_true qB56;have q163:x6_2<(x5_2.length:Int):=of_decide_eq_true qB56;obtain⟨ad163,e163,hx163_0⟩:=Kd.at_int (Kd.R_reads' HO_5.1).2.2 x6_2 p163 q163;cases e163
                  replace p163:=eq_true p163;replace q163:=eq_true q163;go_wp2;go_ret2;exact⟨_,by first|rfl|(simp [errW_none,errW_some] <;> rfl)|(simp [*,errW_none,errW_some] <;> rfl),by (with_reducible repeat(first|apply Kd.R_alloc|apply Kd.R_drewN|apply Kd.R_drew));exact HO_5.1,by repeat(first|(with_reducible first|exact HB.1|apply below_alloc|apply pw_below_drewN|apply below_drew1)|exact HB.1)⟩
                · rw [if_neg c15] at H
                  have c15b0:(x7_2==(wrap64 (a0 - 1)))=false:=beq_eq_false_iff_ne.mpr c15;have c15b1:(x7_2 !=(wrap64 (a0 - 1)))=true:=bne_iff_ne.mpr c15;have H':=qAm H;clear H;obtain⟨Ao17,co17,eo17⟩:=Kd.R_slice HO_5.1;subst eo17;have p163:0≤(x6_2:Int):=of_decide_eq_true qB56;have q163:x6_2<(x5_2.length:Int):=of_decide_eq_true qB56;obtain⟨ad163,e163,hx163_0⟩:=Kd.at_int (Kd.R_reads' HO_5.1).2.2 x6_2 p163 q163;cases e163
                  replace p163:=eq_true p163;replace q163:=eq_true q163;go_wp2
                  (first|go_roundg k2|((try simp only [add_plain] at *);go_roundg k2))
                  case measure=>have:=HK1.1;have:=HK2.1;omega
                  case rel=>exact⟨(wrap64 (x4_1+1)),qB57,H',⟨by have:=HK1.1;have:=HK2.1;omega⟩,⟨by repeat(first|(with_reducible first|exact HB.1|apply below_alloc|apply pw_below_drewN|apply below_drew1)|exact HB.1)⟩⟩
            · rw [if_neg c8] at H
              exact absurd H (by simp)
          · rw [if_neg c7] at H
            exact absurd H (by simp)

/-! ### impl_periodsOf: function 81 -/
mutual
def impl_periodsOf.j0:Nat→Int→Int→Bool→Option (Int×Int×Int×List Int×Bool)
  |0,_,_,_=>none
  |k+1,x0,x1,x24=>if x24=true then (some (0,0,0,([]:List Int),false)) else ((impl_indices.f k x0).bind fun bt168=>(impl_periodsOf.l0 k x0 x1 bt168.1 (bt168.1.length:Int) 0))
def impl_periodsOf.l0:Nat→Int→Int→List Int→Int→Int→Option (Int×Int×Int×List Int×Bool)
  |0,_,_,_,_,_=>none
  |k+1,x0,x1,x6,x32,x33=>if x33<x32 then (if 0≤x33 then (if x33<(x6.length:Int) then (if x33 > 0 then (if x1=0 then (none) else (impl_periodsOf.l0 k x0 x1 (x6.set (x33:Int).toNat (Int.tmod (rd x6 x33) x1)) x32 (wrap64 (x33+1)))) else (impl_periodsOf.l0 k x0 x1 x6 x32 (wrap64 (x33+1)))) else (none)) else (none)) else (if x1=0 then (none) else (some (x0,x1,wrap64 (Int.tdiv (wrap64 (x0 - 1)) x1),x6,true)))
end
def impl_periodsOf.f (k:Nat) (a0:Int) (a1:Int):Option (Int×Int×Int×List Int×Bool):=(impl_isPrime.f k a0).bind fun t166=>(if t166=true then ((impl_within.f a1 1 12).bind fun t167=>(if t167=true then (if a1=0 then (none) else (impl_periodsOf.j0 k a0 a1 ((Int.tmod (wrap64 (a0 - 1)) a1) !=0))) else (impl_periodsOf.j0 k a0 a1 true))) else (impl_periodsOf.j0 k a0 a1 true))
theorem impl_periodsOf.mono_l:∀k,(∀y0 y1 y2,LeO (impl_periodsOf.j0 k y0 y1 y2) (impl_periodsOf.j0 (k+1) y0 y1 y2))∧(∀y0 y1 y2 y3 y4,LeO (impl_periodsOf.l0 k y0 y1 y2 y3 y4) (impl_periodsOf.l0 (k+1) y0 y1 y2 y3 y4))
  |0=>⟨fun _ _ _ r h=>by simp [impl_periodsOf.j0] at h,fun _ _ _ _ _ r h=>by simp [impl_periodsOf.l0] at h⟩
  |k+1=>by
    obtain⟨ih0,ih1⟩:=impl_periodsOf.mono_l k;refine⟨?_,?_⟩
    · intro y0 y1 y2
      unfold impl_periodsOf.j0;repeat' first
      |(with_reducible exact ih0 _ _ _)
      |(with_reducible exact ih1 _ _ _ _ _)
      |(with_reducible exact impl_indices.mono _ _)
      |(with_reducible exact impl_isPrime.mono _ _)
      |(with_reducible exact LeO.refl _)
      |(with_reducible exact LeO.none _)
      |(with_reducible refine LeO.ite ?_ ?_)
      |(with_reducible refine LeO.bind ?_ (fun _=>?_))
      |exact ih0 _ _ _
      |exact ih1 _ _ _ _ _
      |exact impl_indices.mono _ _
      |exact impl_isPrime.mono _ _
      |exact LeO.none _
      |refine LeO.ite ?_ ?_
      |refine LeO.bind ?_ (fun _=>?_)
    · intro y0 y1 y2 y3 y4
      unfold impl_periodsOf.l0;repeat' first
      |(with_reducible exact ih0 _ _ _)
      |(with_reducible exact ih1 _ _ _ _ _)
      |(with_reducible exact impl_indices.mono _ _)
      |(with_reducible exact impl_isPrime.mono _ _)
      |(with_reducible exact LeO.refl _)
      |(with_reducible exact LeO.none _)
      |(with_reducible refine LeO.ite ?_ ?_)
      |(with_reducible refine LeO.bind ?_ (fun _=>?_))
      |exact ih0 _ _ _
      |exact ih1 _ _ _ _ _
      |exact impl_indices.mono _ _
      |exact impl_isPrime.mono _ _
      |exact LeO.none _
      |refine LeO.ite ?_ ?_
      |refine LeO.bind ?_ (fun _=>?_)
theorem impl_periodsOf.mono:∀a0 a1 k,LeO (impl_periodsOf.f k a0 a1) (impl_periodsOf.f (k+1) a0 a1):=by
  intro a0 a1 k;obtain⟨ih0,ih1⟩:=impl_periodsOf.mono_l k;unfold impl_periodsOf.f;repeat' first
      |(with_reducible exact ih0 _ _ _)
      |(with_reducible exact ih1 _ _ _ _ _)
      |(with_reducible exact impl_indices.mono _ _)
      |(with_reducible exact impl_isPrime.mono _ _)
      |(with_reducible exact LeO.refl _)
      |(with_reducible exact LeO.none _)
      |(with_reducible refine LeO.ite ?_ ?_)
      |(with_reducible refine LeO.bind ?_ (fun _=>?_))
      |exact ih0 _ _ _
      |exact ih1 _ _ _ _ _
      |exact impl_indices.mono _ _
      |exact impl_isPrime.mono _ _
      |exact LeO.none _
      |refine LeO.ite ?_ ?_
      |refine LeO.bind ?_ (fun _=>?_)
set_option maxHeartbeats 8000000 in
set_option maxRecDepth 100000 in
theorem impl_periodsOf.calls (k:Nat) (a0:Int) (a1:Int) (r1:Int) (r2:Int) (r3:Int) (r4:List Int) (r5:Bool) (w:World) (h:impl_periodsOf.f k a0 a1=some (r1,r2,r3,r4,r5)):
    Calls Try.prog 81 #[.int .i64 a0,.int .i64 a1] w fun e w'=>∃v3_:Value,e=.returned (.tuple #[.agg #[.int .i64 r1,.int .i64 r2,.int .i64 r3,v3_],.bool r5])∧Kd.R (Kd.int .i64) 2 w' w.heap.size (fun _=>True) v3_ r4∧Below w.heap.size w w':=by
  have hu97:=Try.underlying97;have HB:=qAm (Below.refl w.heap.size w);have H:((impl_isPrime.f k a0).bind fun t166=>(if t166=true then ((impl_within.f a1 1 12).bind fun t167=>(if t167=true then (if a1=0 then (none) else (impl_periodsOf.j0 k a0 a1 ((Int.tmod (wrap64 (a0 - 1)) a1) !=0))) else (impl_periodsOf.j0 k a0 a1 true))) else (impl_periodsOf.j0 k a0 a1 true)))=some (r1,r2,r3,r4,r5):=h;clear h;have HC3:=qAm H;clear H;go_enter Try.func81,Try.ntmps81;go_upto_region 1 with (first|((with_reducible refine gate_dst (N:=4) rfl ?_);refine box_event ?hg (N:=4) ?hd (cs:=#[.int .i64 0,.int .i64 0,.int .i64 0,.slice none 0 0]) (t:=97) ?hr ?_;(case hd=>rfl);(case hg=>rfl);(case hr=>first|(go_simp;done)|(go_simp;rfl));intro gb165 hg w4 hbox hb;have n0_:=qAm (below_step qB23 hb);have n1_:=qAm (hbox);have n2_:=qAm ((by rw [hg];exact(below_size qB23):w.heap.size≤gb165));have n3_:=qAm ((by rw [hg];exact(below_size qB23):w.heap.size≤gb165));clear HB;have HB:=n0_;have BK165:=n1_;have GW165:=n2_;have GE165:=n3_;clear n0_ n1_ n2_ n3_;clear hb hbox hg))
  (try simp only [Act.put,qSa,qSb,qSc])
  go_cut [24] (fun v24 wc=>∃(kq:Nat) (x24_2:Bool),v24=.bool x24_2∧Aside0 (impl_periodsOf.j0 kq a0 a1 x24_2=some (r1,r2,r3,r4,r5))∧Aside0 (kq≤k)∧Aside0 (wc.heap[gb165]? =some (.cells #[.int .i64 0,.int .i64 0,.int .i64 0,(.slice none 0 0)] 97 (0,0)))∧Aside0 (Below w.heap.size w wc))
  case first=>
    have H:=HC3.1;clear HC3;replace H:=qOb H;obtain⟨t166,A50,H⟩:=H;replace H:(if t166=true then ((impl_within.f a1 1 12).bind fun t167=>(if t167=true then (if a1=0 then (none) else (impl_periodsOf.j0 k a0 a1 ((Int.tmod (wrap64 (a0 - 1)) a1) !=0))) else (impl_periodsOf.j0 k a0 a1 true))) else (impl_periodsOf.j0 k a0 a1 true))=some (r1,r2,r3,r4,r5):=H;have A5:=qAm A50;clear A50
    by_cases c6:t166=true
    · subst c6
      have H1:((impl_within.f a1 1 12).bind fun t167=>(if t167=true then (if a1=0 then (none) else (impl_periodsOf.j0 k a0 a1 ((Int.tmod (wrap64 (a0 - 1)) a1) !=0))) else (impl_periodsOf.j0 k a0 a1 true)))=some (r1,r2,r3,r4,r5):=by rw [if_pos rfl] at H;exact H
      clear H;have H:=H1;clear H1;replace H:=qOb H;obtain⟨t167,A70,H⟩:=H;replace H:(if t167=true then (if a1=0 then (none) else (impl_periodsOf.j0 k a0 a1 ((Int.tmod (wrap64 (a0 - 1)) a1) !=0))) else (impl_periodsOf.j0 k a0 a1 true))=some (r1,r2,r3,r4,r5):=H;have A7:=qAm A70;clear A70
      by_cases c8:t167=true
      · subst c8
        have H1:(if a1=0 then (none) else (impl_periodsOf.j0 k a0 a1 ((Int.tmod (wrap64 (a0 - 1)) a1) !=0)))=some (r1,r2,r3,r4,r5):=by rw [if_pos rfl] at H;exact H
        clear H;have H:=H1;clear H1
        by_cases c9:a1=0
        · rw [if_pos c9] at H
          exact absurd H (by simp)
        · rw [if_neg c9] at H
          have c9b0:(a1==0)=false:=beq_eq_false_iff_ne.mpr c9;have c9b1:(a1 !=0)=true:=bne_iff_ne.mpr c9
          (first|rw [c9b0]|(simp only [i64_w,i32_w];rw [c9b0])|skip)
          have H':=qAm H;clear H;go_wp2_with (first|((with_reducible refine gate_callee (f:=106) rfl ?_);refine goesL_ (some 11) rfl rfl Try.func106 (by kernel_rfl) rfl #[.int .i64 a0] rfl qB19 ?_;(with_reducible refine(impl_isPrime.calls k a0 true _ A5.1).mono ?_);rintro e w' ⟨rfl,⟨nd,rfl⟩⟩;refine⟨_,rfl,?_⟩)|(go_at_call 87;(with_reducible refine(impl_within.calls a1 1 12 true _ A7.1).mono ?_);rintro e w' ⟨rfl,⟨nd,rfl⟩⟩));go_meet
          case rel=>exact⟨_,(((Int.tmod (wrap64 (a0 - 1)) a1) !=0)),qB57,H',⟨by first|omega|exact Nat.le_refl _⟩,⟨by (with_reducible repeat(first|refine blk_drewN ?_ _|refine blk_drew ?_|refine blk_alloc ?_ _));exact BK165.1⟩,⟨by repeat(first|(with_reducible first|exact HB.1|apply below_alloc|apply pw_below_drewN|apply below_drew1|refine below_set ?_ GE165.1)|exact HB.1)⟩⟩
      · replace c8:=Bool.eq_false_iff.mpr c8
        subst c8;have H1:(impl_periodsOf.j0 k a0 a1 true)=some (r1,r2,r3,r4,r5):=by rw [if_neg (show ¬(false=true) by decide)] at H;exact H
        clear H;have H:=H1;clear H1;have H':=qAm H;clear H;go_wp2_with (first|((with_reducible refine gate_callee (f:=106) rfl ?_);refine goesL_ (some 11) rfl rfl Try.func106 (by kernel_rfl) rfl #[.int .i64 a0] rfl qB19 ?_;(with_reducible refine(impl_isPrime.calls k a0 true _ A5.1).mono ?_);rintro e w' ⟨rfl,⟨nd,rfl⟩⟩;refine⟨_,rfl,?_⟩)|(go_at_call 87;(with_reducible refine(impl_within.calls a1 1 12 false _ A7.1).mono ?_);rintro e w' ⟨rfl,⟨nd,rfl⟩⟩));go_meet
        case rel=>exact⟨_,(true),qB57,H',⟨by first|omega|exact Nat.le_refl _⟩,⟨by (with_reducible repeat(first|refine blk_drewN ?_ _|refine blk_drew ?_|refine blk_alloc ?_ _));exact BK165.1⟩,⟨by repeat(first|(with_reducible first|exact HB.1|apply below_alloc|apply pw_below_drewN|apply below_drew1|refine below_set ?_ GE165.1)|exact HB.1)⟩⟩
    · replace c6:=Bool.eq_false_iff.mpr c6
      subst c6;have H1:(impl_periodsOf.j0 k a0 a1 true)=some (r1,r2,r3,r4,r5):=by rw [if_neg (show ¬(false=true) by decide)] at H;exact H
      clear H;have H:=H1;clear H1;have H':=qAm H;clear H;go_wp2_with (first|((with_reducible refine gate_callee (f:=106) rfl ?_);refine goesL_ (some 11) rfl rfl Try.func106 (by kernel_rfl) rfl #[.int .i64 a0] rfl qB19 ?_;(with_reducible refine(impl_isPrime.calls k a0 false _ A5.1).mono ?_);rintro e w' ⟨rfl,⟨nd,rfl⟩⟩;refine⟨_,rfl,?_⟩));go_meet
      case rel=>exact⟨_,(true),qB57,H',⟨by first|omega|exact Nat.le_refl _⟩,⟨by (with_reducible repeat(first|refine blk_drewN ?_ _|refine blk_drew ?_|refine blk_alloc ?_ _));exact BK165.1⟩,⟨by repeat(first|(with_reducible first|exact HB.1|apply below_alloc|apply pw_below_drewN|apply below_drew1|refine below_set ?_ GE165.1)|exact HB.1)⟩⟩
  case rest=>
    clear HC3;try clear c1
    try clear p2
    try clear c6
    try clear p6
    try clear c8
    try clear c9
    try clear c9b0
    try clear c9b1
    obtain⟨kq,x24_2,rfl,HA,HJ2,BK165,HB⟩:=hcut;cases kq with
    |zero=>exact absurd HA.1 (by simp [impl_periodsOf.j0])
    |succ kj2=>
      have H:=HA.1;clear HA;simp only [impl_periodsOf.j0] at H
      by_cases c10:x24_2=true
      · subst c10
        have H1:(some (0,0,0,([]:List Int),false))=some (r1,r2,r3,r4,r5):=by rw [if_pos rfl] at H;exact H
        clear H;have H:=H1;clear H1;simp only [Option.some.injEq,Prod.mk.injEq] at H;obtain⟨rfl,rfl,rfl,rfl,rfl⟩:=H;have hcz11_0:wc.cell? ⟨gb165,0,none⟩=some (.int .i64 0):=(blk_cell BK165.1 0).trans rfl;have hcz11_1:wc.cell? ⟨gb165,1,none⟩=some (.int .i64 0):=(blk_cell BK165.1 1).trans rfl;have hcz11_2:wc.cell? ⟨gb165,2,none⟩=some (.int .i64 0):=(blk_cell BK165.1 2).trans rfl;have hcz11_3:wc.cell? ⟨gb165,3,none⟩=some (.slice none 0 0):=(blk_cell BK165.1 3).trans rfl;have hfz11_0:=blk_frozen BK165.1 0;have hfz11_1:=blk_frozen BK165.1 1;have hfz11_2:=blk_frozen BK165.1 2;have hfz11_3:=blk_frozen BK165.1 3;go_wp2;refine bodyPost_ret (results_ct rfl _ _ gb165 97 #[.int .i64 0,.int .i64 0,.int .i64 0,.slice none 0 0] (0,0) _ rfl (by (with_reducible repeat(first|refine blk_drewN ?_ _|refine blk_drew ?_|refine blk_alloc ?_ _));refine blk_put (cs:=#[.int .i64 0,.int .i64 0,.int .i64 0,.slice none 0 0]) ?_ 3 _ rfl;(with_reducible repeat(first|refine blk_drewN ?_ _|refine blk_drew ?_|refine blk_alloc ?_ _));refine blk_put (cs:=#[.int .i64 0,.int .i64 0,.int .i64 0,.slice none 0 0]) ?_ 2 _ rfl;(with_reducible repeat(first|refine blk_drewN ?_ _|refine blk_drew ?_|refine blk_alloc ?_ _));refine blk_put (cs:=#[.int .i64 0,.int .i64 0,.int .i64 0,.slice none 0 0]) ?_ 1 _ rfl;(with_reducible repeat(first|refine blk_drewN ?_ _|refine blk_drew ?_|refine blk_alloc ?_ _));refine blk_put (cs:=#[.int .i64 0,.int .i64 0,.int .i64 0,.slice none 0 0]) ?_ 0 _ rfl;(with_reducible repeat(first|refine blk_drewN ?_ _|refine blk_drew ?_|refine blk_alloc ?_ _));exact BK165.1) Try.underlying97 rfl (by kernel_rfl)) rfl ?_;exact⟨_,by first|rfl|(simp [errW_none,errW_some] <;> rfl)|(simp [*,errW_none,errW_some] <;> rfl),by first|exact Kd.R_nil _ _ _ _ _|exact Kd.N_nil _ _ _ _ _|exact Kd.V_nil _ _ _ _ _|exact Kd.Q_nil _ _ _ _ _|exact Kd.S_nil _ _ _ _ _,by repeat(first|(with_reducible first|exact HB.1|apply below_alloc|apply pw_below_drewN|apply below_drew1|refine below_set ?_ GE165.1)|exact HB.1)⟩
      · replace c10:=Bool.eq_false_iff.mpr c10
        subst c10;have H1:((impl_indices.f kj2 a0).bind fun bt168=>(impl_periodsOf.l0 kj2 a0 a1 bt168.1 (bt168.1.length:Int) 0))=some (r1,r2,r3,r4,r5):=by rw [if_neg (show ¬(false=true) by decide)] at H;exact H
        clear H;have H:=H1;clear H1;replace H:=qOb H;obtain⟨⟨t168,t169⟩,A120,H⟩:=H;replace H:(impl_periodsOf.l0 kj2 a0 a1 t168 (t168.length:Int) 0)=some (r1,r2,r3,r4,r5):=H;have A12:=qAm A120;clear A120;have H':=qAm H;clear H;go_wp2_with (first|((with_reducible refine gate_callee (f:=123) rfl ?_);refine goesL_ (some 28) rfl rfl Try.func123 (by kernel_rfl) rfl #[.int .i64 a0] rfl qB19 ?_;(with_reducible refine(impl_indices.calls kj2 a0 t168 t169 _ A12.1).mono ?_);rintro e w13 ⟨v170,rfl,ho0,hb⟩;refine⟨_,rfl,?_⟩;have n0_:=qAm (Kd.R_lower ho0 (below_size qB14));have n1_:=qAm (blk_below (g:=gb165) (o:=.cells #[.int .i64 0,.int .i64 0,.int .i64 0,.slice none 0 0] 97 (0,0)) qB27 hb);have n2_:=qAm (below_step qB14 hb);clear BK165;clear HB;have HO171:=n0_;have BK165:=n1_;have HB:=n2_;clear n0_ n1_ n2_;(try clear hb);(try clear hb2);(try clear hk);(try clear hi);(try clear ho0);obtain⟨Ao14,co14,eo14⟩:=Kd.R_slice HO171.1;subst eo14));try simp only [Act.put,qSa,qSc,qSb]
        go_loopg [33] kj2 (fun kq v33 w'=>∃(x6_2:List Int) (x33_2:Int),v33=.int .i64 x33_2∧Aside0 (impl_periodsOf.l0 kq a0 a1 x6_2 (t168.length:Int) x33_2=some (r1,r2,r3,r4,r5))∧Aside0 (kq≤kj2)∧Aside0 (Kd.R (Kd.int .i64) 2 w' w.heap.size (fun _=>True) (.slice Ao14 t168.length co14) x6_2)∧Aside0 (w'.heap[gb165]? =some (.cells #[.int .i64 0,.int .i64 0,.int .i64 0,(.slice none 0 0)] 97 (0,0)))∧Aside0 (Below w.heap.size w w'))
        case atStart=>exact⟨(t168),(0),qB57,H',⟨Nat.le_refl _⟩,⟨by (with_reducible repeat(first|apply Kd.R_alloc|apply Kd.R_drewN|apply Kd.R_drew));exact HO171.1⟩,⟨by (with_reducible repeat(first|refine blk_drewN ?_ _|refine blk_drew ?_|refine blk_alloc ?_ _));exact BK165.1⟩,⟨by repeat(first|(with_reducible first|exact HB.1|apply below_alloc|apply pw_below_drewN|apply below_drew1|refine below_set ?_ GE165.1)|exact HB.1)⟩⟩
        case round=>
          clear H';try clear c1
          try clear p2
          try clear c6
          try clear p6
          try clear c8
          try clear c9
          try clear c9b0
          try clear c9b1
          try clear c10
          try clear c12
          try clear hcz11_0
          try clear hcz11_1
          try clear hcz11_2
          try clear hcz11_3
          try clear hfz11_0
          try clear hfz11_1
          try clear hfz11_2
          try clear hfz11_3
          try clear p2
          try clear p6
          obtain⟨x6_2,x33_2,rfl,HA,HK2,HO_6,BK165,HB⟩:=hrel;have hl6_2:=(Kd.R_reads' HO_6.1).1;rw [hl6_2] at HO_6
          (try simp only [hl6_2])
          (try simp only [hl6_2] at BK165)
          cases gk with
          |zero=>exact absurd HA.1 (by simp [impl_periodsOf.l0])
          |succ k2=>
            have H:=HA.1;clear HA;simp only [impl_periodsOf.l0] at H
            by_cases c15:x33_2<(t168.length:Int)
            · rw [if_pos c15] at H
              have c15b0:decide (x33_2<(t168.length:Int))=true:=decide_eq_true c15;clear c15
              by_cases c16:0≤x33_2
              · rw [if_pos c16] at H
                have c16b0:decide (0≤x33_2)=true:=decide_eq_true c16;clear c16
                by_cases c17:x33_2<(x6_2.length:Int)
                · rw [if_pos c17] at H
                  have c17b0:decide (x33_2<(x6_2.length:Int))=true:=decide_eq_true c17;clear c17
                  by_cases c18:x33_2 > 0
                  · rw [if_pos c18] at H
                    have c18b0:decide (0<x33_2)=true:=decide_eq_true c18;clear c18
                    by_cases c19:a1=0
                    · rw [if_pos c19] at H
                      exact absurd H (by simp)
                    · rw [if_neg c19] at H
                      have c19b0:(a1==0)=false:=beq_eq_false_iff_ne.mpr c19;have c19b1:(a1 !=0)=true:=bne_iff_ne.mpr c19;obtain⟨y173,hy173⟩:∃y_:List Int,y_=(x6_2.set (x33_2:Int).toNat (Int.tmod (rd x6_2 x33_2) a1)):=⟨_,rfl⟩
                      replace H:(impl_periodsOf.l0 k2 a0 a1 y173 (t168.length:Int) (wrap64 (x33_2+1)))=some (r1,r2,r3,r4,r5):=by first|(rw [hy173];with_reducible exact H)|(have H2_:=(Option.bind_some _ _).symm.trans H;rw [hy173];with_reducible exact H2_)|(have H2_:=(Option.bind_some _ _).symm.trans H;with_reducible exact H2_)|with_reducible exact H|(rw [hy173];exact H)|exact H
                      have Ny173:=qAm hy173;clear hy173;have H':=qAm H;clear H;have p172:0≤(x33_2:Int):=of_decide_eq_true qB56;have q172:x33_2<(x6_2.length:Int):=of_decide_eq_true qB56;obtain⟨ad172,e172,hx172_0⟩:=Kd.at_int (Kd.R_reads' HO_6.1).2.2 x33_2 p172 q172;cases e172
                      replace p172:=eq_true p172;replace q172:=eq_true q172;have p20:0≤(x33_2:Int):=of_decide_eq_true qB56;have q20:(x33_2:Int)<((x6_2.length:Int):Int):=of_decide_eq_true qB56;obtain⟨go20,co20,eo20,gb20,gl20,cl20,HG20⟩:=Kd.R_form HO_6.1 (by omega)
                      (first|cases eo20|(injection eo20 with ea_ en_ ec_;(first|subst ea_|(injection ea_ with ea_;subst ea_));subst ec_;clear en_))
                      have GB20:=qAm gb20;have GG20:=qAm HG20;clear gb20 gl20 HG20
                      (first|simp only [add_plain] at hx172_0|skip)
                      obtain⟨hx20_0,hf20_0⟩:=Kd.R_celln 0 HO_6.1 (x33_2:Int) p20 q20;replace p20:=eq_true p20;replace q20:=eq_true q20;have HP21:=Kd.R_putg HO_6.1 (x33_2:Int) (Int.tmod (rd x6_2 x33_2) a1);go_wp2_with (first|((with_reducible refine gate_store (t:=2) (p:=45) rfl ?_);refine store_event (t:=2) (p:=45) (v:=?vo_w22) (w1:=(wr.setCell ⟨go20,(x33_2:Int).toNat,none⟩ (.int .i64 (Int.tmod (rd x6_2 x33_2) a1)))) ?hg ?ho ?hn ?hr ?_;(case ho=>rfl);(case hg=>rfl);(case hn=>rfl);(case hr=>first|(go_simp;done)|(go_simp;rfl));intro w22 hw;have hg:wr.grownBy w22 (some go20):=(by rw [hw];exact HP21.2);have hp_:Kd.R (Kd.int .i64) 2 w22 w.heap.size (fun _=>True) (.slice (some ⟨go20,0,none⟩) x6_2.length co14) y173:=(by rw [hw,Ny173.1];exact HP21.1);clear HP21;have n0_:=qAm (hp_);have n1_:=qAm (blk_grown (g:=gb165) (o:=.cells #[.int .i64 0,.int .i64 0,.int .i64 0,.slice none 0 0] 97 (0,0)) qB27 hg (Kd.R_ne HO_6.1 BK165.1 (by decide)));have n2_:=qAm ((by rw [hw];exact below_set (HB.1) GB20.1:Below w.heap.size w w22));clear HO_6;clear BK165;clear HB;have HO_6:=n0_;have BK165:=n1_;have HB:=n2_;clear n0_ n1_ n2_;clear hg hw hp_))
                      (try simp only [← hl6_2])
                      (first|go_roundg k2|((try simp only [add_plain] at *);go_roundg k2))
                      case measure=>have:=HJ2.1;have:=HK2.1;omega
                      case rel=>exact⟨(y173),(wrap64 (x33_2+1)),qB57,H',⟨by have:=HJ2.1;have:=HK2.1;omega⟩,⟨by (try simp only [hl6_2]);(with_reducible repeat(first|apply Kd.R_alloc|apply Kd.R_drewN|apply Kd.R_drew));exact HO_6.1⟩,⟨by (try simp only [hl6_2]);(with_reducible repeat(first|refine blk_drewN ?_ _|refine blk_drew ?_|refine blk_alloc ?_ _));exact BK165.1⟩,⟨by repeat(first|(with_reducible first|exact HB.1|apply below_alloc|apply pw_below_drewN|apply below_drew1|refine below_set ?_ GE165.1)|exact HB.1)⟩⟩
                  · rw [if_neg c18] at H
                    have c18b0:decide (0<x33_2)=false:=decide_eq_false c18;clear c18;have H':=qAm H;clear H;have p172:0≤(x33_2:Int):=of_decide_eq_true qB56;have q172:x33_2<(x6_2.length:Int):=of_decide_eq_true qB56;obtain⟨ad172,e172,hx172_0⟩:=Kd.at_int (Kd.R_reads' HO_6.1).2.2 x33_2 p172 q172;cases e172
                    replace p172:=eq_true p172;replace q172:=eq_true q172;go_wp2
                    (try simp only [← hl6_2])
                    (first|go_roundg k2|((try simp only [add_plain] at *);go_roundg k2))
                    case measure=>have:=HJ2.1;have:=HK2.1;omega
                    case rel=>exact⟨(x6_2),(wrap64 (x33_2+1)),qB57,H',⟨by have:=HJ2.1;have:=HK2.1;omega⟩,⟨by (try simp only [hl6_2]);(with_reducible repeat(first|apply Kd.R_alloc|apply Kd.R_drewN|apply Kd.R_drew));exact HO_6.1⟩,⟨by (try simp only [hl6_2]);(with_reducible repeat(first|refine blk_drewN ?_ _|refine blk_drew ?_|refine blk_alloc ?_ _));exact BK165.1⟩,⟨by repeat(first|(with_reducible first|exact HB.1|apply below_alloc|apply pw_below_drewN|apply below_drew1|refine below_set ?_ GE165.1)|exact HB.1)⟩⟩
                · rw [if_neg c17] at H
                  exact absurd H (by simp)
              · rw [if_neg c16] at H
                exact absurd H (by simp)
            · rw [if_neg c15] at H
              have c15b0:decide (x33_2<(t168.length:Int))=false:=decide_eq_false c15;have c15b0_0:=c15b0
              (try rw [hl6_2] at c15b0_0)
              clear c15
              by_cases c23:a1=0
              · rw [if_pos c23] at H
                exact absurd H (by simp)
              · rw [if_neg c23] at H
                have c23b0:(a1==0)=false:=beq_eq_false_iff_ne.mpr c23;have c23b1:(a1 !=0)=true:=bne_iff_ne.mpr c23;simp only [Option.some.injEq,Prod.mk.injEq] at H;obtain⟨rfl,rfl,rfl,rfl,rfl⟩:=H;have hcz24_0:wr.cell? ⟨gb165,0,none⟩=some (.int .i64 0):=(blk_cell BK165.1 0).trans rfl;have hcz24_1:wr.cell? ⟨gb165,1,none⟩=some (.int .i64 0):=(blk_cell BK165.1 1).trans rfl;have hcz24_2:wr.cell? ⟨gb165,2,none⟩=some (.int .i64 0):=(blk_cell BK165.1 2).trans rfl;have hcz24_3:wr.cell? ⟨gb165,3,none⟩=some (.slice none 0 0):=(blk_cell BK165.1 3).trans rfl;have hfz24_0:=blk_frozen BK165.1 0;have hfz24_1:=blk_frozen BK165.1 1;have hfz24_2:=blk_frozen BK165.1 2;have hfz24_3:=blk_frozen BK165.1 3;go_wp2;refine bodyPost_ret (results_ct rfl _ _ gb165 97 #[.int .i64 a0,.int .i64 a1,.int .i64 (wrap64 (Int.tdiv (wrap64 (a0 - 1)) a1)),.slice Ao14 x6_2.length co14] (0,0) _ rfl (by (with_reducible repeat(first|refine blk_drewN ?_ _|refine blk_drew ?_|refine blk_alloc ?_ _));refine blk_put (cs:=#[.int .i64 a0,.int .i64 a1,.int .i64 (wrap64 (Int.tdiv (wrap64 (a0 - 1)) a1)),.slice none 0 0]) ?_ 3 _ rfl;(with_reducible repeat(first|refine blk_drewN ?_ _|refine blk_drew ?_|refine blk_alloc ?_ _));refine blk_put (cs:=#[.int .i64 a0,.int .i64 a1,.int .i64 0,.slice none 0 0]) ?_ 2 _ rfl;(with_reducible repeat(first|refine blk_drewN ?_ _|refine blk_drew ?_|refine blk_alloc ?_ _));refine blk_put (cs:=#[.int .i64 a0,.int .i64 0,.int .i64 0,.slice none 0 0]) ?_ 1 _ rfl;(with_reducible repeat(first|refine blk_drewN ?_ _|refine blk_drew ?_|refine blk_alloc ?_ _));refine blk_put (cs:=#[.int .i64 0,.int .i64 0,.int .i64 0,.slice none 0 0]) ?_ 0 _ rfl;(with_reducible repeat(first|refine blk_drewN ?_ _|refine blk_drew ?_|refine blk_alloc ?_ _));exact BK165.1) Try.underlying97 rfl (by kernel_rfl)) rfl ?_;exact⟨_,by first|rfl|(simp [errW_none,errW_some] <;> rfl)|(simp [*,errW_none,errW_some] <;> rfl),by (with_reducible repeat(first|apply Kd.R_alloc|apply Kd.R_drewN|apply Kd.R_drew));exact Kd.R_mono (Kd.R_far (p:=⟨gb165,3,none⟩) (Kd.R_far (p:=⟨gb165,2,none⟩) (Kd.R_far (p:=⟨gb165,1,none⟩) (Kd.R_far (p:=⟨gb165,0,none⟩) (Kd.R_types HO_6.1 BK165.1 (by decide)) (fun _ hk=>hk.2) (.int .i64 a0)) (fun _ hk=>hk.2) (.int .i64 a1)) (fun _ hk=>hk.2) (.int .i64 (wrap64 (Int.tdiv (wrap64 (a0 - 1)) a1)))) (fun _ hk=>hk.2) (.slice Ao14 x6_2.length co14)) (fun _ hk=>trivial),by repeat(first|(with_reducible first|exact HB.1|apply below_alloc|apply pw_below_drewN|apply below_drew1|refine below_set ?_ GE165.1)|exact HB.1)⟩

end Go.Proofs.Ytefhabkikaadiaa.PFnPeriods
