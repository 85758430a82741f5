/- The functions that the law reaches, as plain functions, each with the proof that the program comes to it; no condition. Written by a program of this session (wip/mp.py) over the printing of the kit; what is marked HAND is told by hand. -/
import Derived.Test.YthljmbobccaalaaPFnExactSizeOfx0
import Derived.WalkLawsBesides
namespace Go.Proofs.Ythljmbobccaalaa.PFnExactSizeOf
open Go.RowKit Go.Proofs.YthljmbobccaalaaW.PrintWords Go.Proofs.YthljmbobccaalaaW.PrintLast Go.Proofs.YthljmbobccaalaaW.PrintMore
attribute [local go_sem] max2_int min2_int max_two min_two max_three min_three max_four min_four   -- for this text's walks alone
set_option linter.unusedVariables false
set_option linter.unusedSimpArgs false

/-- A state of type 52 at block g of W; what its slices lead to came in by w0. -/
def IsS52 (w0 W:World) (g:Nat) (f0:Int) (f1:Int) (f2:List (List Int)):Prop:=∃A2 c2,W.heap[g]? =some (.cells #[.int .i64 f0,.int .i64 f1,.slice A2 f2.length c2] 52 (0,0))∧w0.heap.size≤g∧Kd.C (Kd.slice 2 (Kd.int .i64)) w0 A2 f2.length f2
theorem IsS52.grown {w0 W:World} {g:Nat} {f0:Int} {f1:Int} {f2:List (List Int)} {W1:World} {row:Option Nat} (h:IsS52 w0 W g f0 f1 f2) (hw:W.grownBy W1 row) (hne:some g≠row):IsS52 w0 W1 g f0 f1 f2:=by
 obtain⟨A2,c2,hb,hg,hr2⟩:=h;exact⟨A2,c2,blk_grown hb hw hne,hg,hr2⟩
theorem IsS52.own_neN {w0 W:World} {g:Nat} {f0:Int} {f1:Int} {f2:List (List Int)} {α:Type} {d:Kd α} {e:Nat} {base:Nat} {ok:Nat→Prop} {v:Value} {xs:List α} (h:IsS52 w0 W g f0 f1 f2) (ho:Kd.N d e W base ok v xs) (ht:e≠52):some g≠v.ownBlock:=by
 obtain⟨A2,c2,hb,hg,hr2⟩:=h;exact Kd.N_ne ho hb ht
theorem IsS52.fresh {w0 W:World} {g:Nat} {f0:Int} {f1:Int} {f2:List (List Int)} (h:IsS52 w0 W g f0 f1 f2):∀k,W.heap.size≤k→k≠g:=by
 obtain⟨A2,c2,hb,hg,hr2⟩:=h;exact Kd.freshB hb
theorem IsS52.kept {w0 W:World} {g:Nat} {f0:Int} {f1:Int} {f2:List (List Int)} {W1:World} {S:Nat→Prop} (h:IsS52 w0 W g f0 f1 f2) (hk:Kept W W1 S) (hne:¬S g):IsS52 w0 W1 g f0 f1 f2:=by
 obtain⟨A2,c2,hb,hg,hr2⟩:=h;exact⟨A2,c2,blk_kept hb hk hne,hg,hr2⟩
theorem IsS52.below {w0 W:World} {g:Nat} {f0:Int} {f1:Int} {f2:List (List Int)} {W1:World} (h:IsS52 w0 W g f0 f1 f2) (hw:Below W.heap.size W W1):IsS52 w0 W1 g f0 f1 f2:=h.grown (grown_of_below hw none) (by simp)
theorem IsS52.alloc {w0 W:World} {g:Nat} {f0:Int} {f1:Int} {f2:List (List Int)} (h:IsS52 w0 W g f0 f1 f2) (o:Obj):IsS52 w0 (W.alloc o) g f0 f1 f2:=h.below (below_alloc (Below.refl _ _) o)
theorem IsS52.drewN {w0 W:World} {g:Nat} {f0:Int} {f1:Int} {f2:List (List Int)} (h:IsS52 w0 W g f0 f1 f2) (m:Nat):IsS52 w0 (W.drewN m) g f0 f1 f2:=h
theorem IsS52.drew {w0 W:World} {g:Nat} {f0:Int} {f1:Int} {f2:List (List Int)} (h:IsS52 w0 W g f0 f1 f2):IsS52 w0 W.drew g f0 f1 f2:=h
theorem IsS52.at_ {w0 W:World} {g:Nat} {f0:Int} {f1:Int} {f2:List (List Int)} {w':World} {m:Nat} (hq:W.drewN m=w') (h:IsS52 w0 W g f0 f1 f2):IsS52 w0 w' g f0 f1 f2:=by subst hq;exact IsS52.drewN h m
theorem IsS52.apart {w0 W:World} {g:Nat} {f0:Int} {f1:Int} {f2:List (List Int)} {α:Type} {d:Kd α} {e:Nat} {base:Nat} {ok:Nat→Prop} {v:Value} {xs:List α} (h:IsS52 w0 W g f0 f1 f2) (ho:d.R e W base ok v xs) (ht:∀q,q∈e::d.E→q≠52):d.R e W base (fun k=>ok k∧k≠g) v xs:=by
 obtain⟨A2,c2,hb,hg,hr2⟩:=h;exact Kd.R_types ho hb ht
theorem IsS52.own_ne {w0 W:World} {g:Nat} {f0:Int} {f1:Int} {f2:List (List Int)} {α:Type} {d:Kd α} {e:Nat} {base:Nat} {ok:Nat→Prop} {v:Value} {xs:List α} (h:IsS52 w0 W g f0 f1 f2) (ho:d.R e W base ok v xs) (ht:e≠52):some g≠v.ownBlock:=by
 obtain⟨A2,c2,hb,hg,hr2⟩:=h;exact Kd.R_ne ho hb ht
theorem IsS52.apartQ {w0 W:World} {g:Nat} {f0:Int} {f1:Int} {f2:List (List Int)} {α:Type} {d:Kd α} {e:Nat} {base:Nat} {ok:Nat→Prop} {v:Value} {xs:List α} (h:IsS52 w0 W g f0 f1 f2) (ho:d.Q e W base ok v xs) (ht:∀q,q∈e::d.E→q≠52):d.Q e W base (fun k=>ok k∧k≠g) v xs:=by
 obtain⟨A2,c2,hb,hg,hr2⟩:=h;exact Kd.Q_types ho hb ht
theorem IsS52.own_neQ {w0 W:World} {g:Nat} {f0:Int} {f1:Int} {f2:List (List Int)} {α:Type} {d:Kd α} {e:Nat} {base:Nat} {ok:Nat→Prop} {v:Value} {xs:List α} (h:IsS52 w0 W g f0 f1 f2) (ho:d.Q e W base ok v xs) (ht:e≠52):some g≠v.ownBlock:=by
 obtain⟨A2,c2,hb,hg,hr2⟩:=h;exact Kd.Q_ne ho hb ht
theorem IsS52.apartS {w0 W:World} {g:Nat} {f0:Int} {f1:Int} {f2:List (List Int)} {α:Type} {d:Kd α} {e:Nat} {base:Nat} {ok:Nat→Prop} {v:Value} {xs:List α} (h:IsS52 w0 W g f0 f1 f2) (ho:d.S e W base ok v xs) (ht:∀q,q∈e::d.E→q≠52):d.S e W base (fun k=>ok k∧k≠g) v xs:=by
 obtain⟨A2,c2,hb,hg,hr2⟩:=h;exact Kd.S_types ho hb ht
theorem IsS52.own_neS {w0 W:World} {g:Nat} {f0:Int} {f1:Int} {f2:List (List Int)} {α:Type} {d:Kd α} {e:Nat} {base:Nat} {ok:Nat→Prop} {v:Value} {xs:List α} (h:IsS52 w0 W g f0 f1 f2) (ho:d.S e W base ok v xs) (ht:e≠52):some g≠v.ownBlock:=by
 obtain⟨A2,c2,hb,hg,hr2⟩:=h;exact Kd.S_ne ho hb ht
theorem IsS52.lt {w0 W:World} {g:Nat} {f0:Int} {f1:Int} {f2:List (List Int)} (h:IsS52 w0 W g f0 f1 f2):g<W.heap.size:=by
 obtain⟨A2,c2,hb,hg,hr2⟩:=h;exact blk_lt hb
theorem IsS52.ge {w0 W:World} {g:Nat} {f0:Int} {f1:Int} {f2:List (List Int)} (h:IsS52 w0 W g f0 f1 f2):w0.heap.size≤g:=by
 obtain⟨A2,c2,hb,hg,hr2⟩:=h;exact hg
theorem IsS52.ne_blk {w0 W:World} {g:Nat} {f0:Int} {f1:Int} {f2:List (List Int)} {a:Nat} {cs:Array Value} {t:TypeId} {fr:Nat×Nat} (h:IsS52 w0 W g f0 f1 f2) (hb2:W.heap[a]? =some (.cells cs t fr)) (ht:t≠52):g≠a:=by
 obtain⟨A2,c2,hb,hg,hr2⟩:=h;rintro rfl;rw [hb] at hb2;injection hb2 with hb2
 injection hb2 with _ ht2
 exact ht ht2.symm
theorem IsS52.far {w0 W:World} {g:Nat} {f0:Int} {f1:Int} {f2:List (List Int)} {p:Addr} (h:IsS52 w0 W g f0 f1 f2) (hne:g≠p.block) (u:Value):IsS52 w0 (W.setCell p u) g f0 f1 f2:=by
 obtain⟨A2,c2,hb,hg,hr2⟩:=h;exact⟨A2,c2,blk_far hb hne u,hg,hr2⟩
theorem cellS52_0 {W:World} {g:Nat} {A2:Option Addr} {c2:Nat} {f0:Int} {f1:Int} {f2:List (List Int)} (h:W.heap[g]? =some (.cells #[.int .i64 f0,.int .i64 f1,.slice A2 f2.length c2] 52 (0,0))):W.cell? ⟨g,0,none⟩=some (.int .i64 f0):=(blk_cell h 0).trans rfl
theorem IsS52.set_0 {w0 W:World} {g:Nat} {f0:Int} {f1:Int} {f2:List (List Int)} (h:IsS52 w0 W g f0 f1 f2) (x:Int):IsS52 w0 (W.setCell ⟨g,0,none⟩ (.int .i64 x)) g x f1 f2:=by
 obtain⟨A2,c2,hb,hg,hr2⟩:=h;exact⟨A2,c2,by simpa using blk_set hb 0 (.int .i64 x),hg,hr2⟩
theorem cellS52_1 {W:World} {g:Nat} {A2:Option Addr} {c2:Nat} {f0:Int} {f1:Int} {f2:List (List Int)} (h:W.heap[g]? =some (.cells #[.int .i64 f0,.int .i64 f1,.slice A2 f2.length c2] 52 (0,0))):W.cell? ⟨g,1,none⟩=some (.int .i64 f1):=(blk_cell h 1).trans rfl
theorem IsS52.set_1 {w0 W:World} {g:Nat} {f0:Int} {f1:Int} {f2:List (List Int)} (h:IsS52 w0 W g f0 f1 f2) (x:Int):IsS52 w0 (W.setCell ⟨g,1,none⟩ (.int .i64 x)) g f0 x f2:=by
 obtain⟨A2,c2,hb,hg,hr2⟩:=h;exact⟨A2,c2,by simpa using blk_set hb 1 (.int .i64 x),hg,hr2⟩
theorem cellS52_2 {W:World} {g:Nat} {A2:Option Addr} {c2:Nat} {f0:Int} {f1:Int} {f2:List (List Int)} (h:W.heap[g]? =some (.cells #[.int .i64 f0,.int .i64 f1,.slice A2 f2.length c2] 52 (0,0))):W.cell? ⟨g,2,none⟩=some (.slice A2 f2.length c2):=(blk_cell h 2).trans rfl
theorem IsS52.new (w0 W:World) (A2:Option Addr) (c2:Nat) (f0:Int) (f1:Int) (f2:List (List Int)) (hB:Below w0.heap.size w0 W) (hr2:Kd.C (Kd.slice 2 (Kd.int .i64)) w0 A2 f2.length f2):IsS52 w0 (W.alloc (.cells #[.int .i64 f0,.int .i64 f1,.slice A2 f2.length c2] 52)) W.heap.size f0 f1 f2:=⟨A2,c2,by simpa using heap_alloc_new W _,hB.size,hr2⟩

/-! ### impl_field_times: function 41 -/
-- HAND
abbrev hf_of (a:Int):Nat:=floatOfInt .f64 a
def hf_step (s:Int×Nat) (a b:Int):Option (Int×Nat):=(Ieee.double.mul (hf_of a) (hf_of b)).bind fun p=>(Ieee.double.add s.2 p).map fun q=>(wrap64 (s.1+wrap64 (a*b)),q)
theorem hf_store (P:Program) (w:World) (a:Addr) (m:Mode) (k:FloatKind) (b:Nat):(store a (.float k b) m).run P w=stored P w a (.float k b) m:=run_store P w a _ m rfl
attribute [local go_sem] hf_store
set_option maxRecDepth 100000 in
theorem hf_add (g off:Nat) (low near a b:_) (s2:Int×Nat) (W:World) (h0:W.cell? ⟨g,off,none⟩=some (.int .i64 low)) (h1:W.cell? ⟨g,off+1,none⟩=some (.float .f64 near)) (f0:W.frozen? ⟨g,off,none⟩=false) (f1:W.frozen? ⟨g,off+1,none⟩=false) (hs:hf_step (low,near) a b=some s2):
  Calls Try.prog 86 #[.pointer (some ⟨g,off,none⟩),.int .i64 a,.int .i64 b] W fun e w'=>e=.returned (.tuple #[])∧∃n,w'=((W.setCell ⟨g,off,none⟩ (.int .i64 s2.1)).setCell ⟨g,off+1,none⟩ (.float .f64 s2.2)).drewN n:=by
 unfold hf_step at hs;obtain⟨p,hp,hs⟩:=qOb hs;obtain⟨q,hq,rfl⟩:=Option.map_eq_some_iff.mp hs;clear hs;have hm:∀w,(binOp .mul 92 (.float .f64 (floatOfInt .f64 a)) (.float .f64 (floatOfInt .f64 b))).run Try.prog w=.ok (.float .f64 p) w:=fun w=>run_float_arith (P:=Try.prog) w .mul 92 .f64 _ _ p hp
 have ha:∀w,(binOp .add 92 (.float .f64 near) (.float .f64 p)).run Try.prog w=.ok (.float .f64 q) w:=fun w=>run_float_arith (P:=Try.prog) w .add 92 .f64 _ _ q hq
 clear hp hq;go_enter Try.func86,Try.ntmps86;go_wp2
 first|go_ret|go_ret2|go_end0
 exact⟨rfl,0,rfl⟩

def hf_K:Kd (Int×Nat):=Kd.pair (Kd.int .i64) (Kd.scalar (Value.float .f64) (fun _=>rfl))
def hf_row (W:World) (base g:Nat) (S:List (Int×Nat)):Prop:=
 base≤g∧∃cells:Array Value,W.heap[g]? =some (.cells cells 94 (0,0))∧2*S.length≤cells.size∧∀i,i<S.length→cells[2*i]? =some (.int .i64 (S.getD i (0,0)).1)∧cells[2*i+1]? =some (.float .f64 (S.getD i (0,0)).2)
theorem hf_made {w:World} {base m:Nat} {ok:Nat→Prop} {v:Value} {n:Nat} (h:hf_K.R 94 w base ok v (List.replicate n (0,0))) (hb:∃b,v.ownBlock=some b∧m≤b):
  ∃g cap,v=.slice (some ⟨g,0,none⟩) n cap∧hf_row w base g (List.replicate n (0,0)):=by
 obtain⟨_,inner,⟨hl,ho⟩,hr⟩:=h;rw [List.length_replicate] at ho
 rcases ho with ⟨rfl,_⟩|⟨g,cap,cur,rfl,hg,hh,h1,h2,h3,h4⟩
 ·obtain⟨b,hb,_⟩:=hb
  simp [Value.ownBlock] at hb
 ·have h3':cur.size=cap*2:=h3;have h4':cur.toList.take (n*2)=inner:=h4;refine⟨g,cap,rfl,hg,cur,hh,by rw [List.length_replicate];omega,fun i hi=>?_⟩;rw [List.length_replicate] at hi;obtain⟨c0,c1,e,k0,k1⟩:=hr.2 i (0,0) (by rw [List.getElem?_replicate,if_pos hi]);have k0':c0=[.int .i64 0]:=k0;have k1':c1=[.float .f64 0]:=k1;subst k0' k1';have e':(inner.drop (i*2)).take 2=[.int .i64 0,.float .f64 0]:=e;have hd:(List.replicate n ((0,0):Int×Nat)).getD i (0,0)=(0,0):=by rw [List.getD_eq_getElem?_getD,List.getElem?_replicate,if_pos hi];rfl
  rw [hd];have key:∀j,j<2→cur[2*i+j]? =[Value.int .i64 0,.float .f64 0][j]? :=by
   intro j hj;rw [← e',List.getElem?_take_of_lt hj,List.getElem?_drop,← h4',List.getElem?_take_of_lt (by omega),Array.getElem?_toList,show i*2+j=2*i+j by omega]
  exact⟨key 0 (by omega),key 1 (by omega)⟩
theorem hf_cells {W:World} {base g:Nat} {S:List (Int×Nat)} (h:hf_row W base g S) (i:Nat) (hi:i<S.length):
  (W.cell? ⟨g,2*i,none⟩=some (.int .i64 (S.getD i (0,0)).1)∧W.cell? ⟨g,2*i+1,none⟩=some (.float .f64 (S.getD i (0,0)).2))∧W.frozen? ⟨g,2*i,none⟩=false∧W.frozen? ⟨g,2*i+1,none⟩=false:=by
 obtain⟨_,c,hh,_,hc⟩:=h;obtain⟨h0,h1⟩:=hc i hi;refine⟨⟨?_,?_⟩,?_,?_⟩
 ·unfold World.cell?;rw [hh];exact h0
 ·unfold World.cell?;rw [hh];exact h1
 ·unfold World.frozen?;rw [hh];simp
 ·unfold World.frozen?;rw [hh];simp
theorem hf_put {W:World} {base g:Nat} {S:List (Int×Nat)} (h:hf_row W base g S) (i:Nat) (s:Int×Nat):
  hf_row ((W.setCell ⟨g,2*i,none⟩ (.int .i64 s.1)).setCell ⟨g,2*i+1,none⟩ (.float .f64 s.2)) base g (S.set i s):=by
 obtain⟨hg,c,hh,hs,hc⟩:=h;have hlt:g<W.heap.size:=by
  rcases Nat.lt_or_ge g W.heap.size with x|x
  ·exact x
  ·rw [Array.getElem?_eq_none x] at hh;cases hh
 refine⟨hg,(c.setIfInBounds (2*i) (.int .i64 s.1)).setIfInBounds (2*i+1) (.float .f64 s.2),?_,by simpa using hs,fun j hj=>?_⟩
 ·simp [World.setCell,Array.getElem?_modify,hh]
 ·rw [List.length_set] at hj;obtain⟨h0,h1⟩:=hc j hj
  by_cases e:j=i
  ·subst e;have hd:(S.set j s).getD j (0,0)=s:=by rw [List.getD_eq_getElem?_getD,List.getElem?_set_self hj];rfl
   rw [hd]
   constructor
   ·rw [Array.getElem?_setIfInBounds_ne (by omega),Array.getElem?_setIfInBounds_self_of_lt (by omega)]
   ·rw [Array.getElem?_setIfInBounds_self_of_lt (by simp;omega)]
  ·have hd:(S.set i s).getD j (0,0)=S.getD j (0,0):=by rw [List.getD_eq_getElem?_getD,List.getElem?_set_ne (by omega),← List.getD_eq_getElem?_getD]
   rw [hd]
   constructor
   ·rw [Array.getElem?_setIfInBounds_ne (by omega),Array.getElem?_setIfInBounds_ne (by omega)];exact h0
   ·rw [Array.getElem?_setIfInBounds_ne (by omega),Array.getElem?_setIfInBounds_ne (by omega)];exact h1
def hf_ok (low:Int) (near:Nat):Bool:=(decide (-1000000000≤low) && decide (low≤1000000000)) && ((FloatKind.f64.format.order near 4876203697187506176==some .lt) && (FloatKind.f64.format.order near 14099575734042281984==some .gt))
theorem hf_within (a0 a1 a2:Int) (w:World):
  Calls Try.prog 47 #[.int .i64 a0,.int .i64 a1,.int .i64 a2] w fun e w'=>e=.returned (.bool (decide (a1≤a0) && decide (a0≤a2)))∧Drawn0 w w':=by
 cases h1:decide (a1≤a0) <;> cases h2:decide (a0≤a2) <;>
 ·go_enter Try.func47,Try.ntmps47;go_wp2;go_ret;exact⟨by simp_all,by repeat(first|exact Drawn0.refl _|apply Drawn0.step)⟩
set_option maxHeartbeats 8000000 in
set_option maxRecDepth 100000 in
theorem hf_value (g off:Nat) (low near:_) (W:World) (h0:W.cell? ⟨g,off,none⟩=some (.int .i64 low)) (h1:W.cell? ⟨g,off+1,none⟩=some (.float .f64 near)):
  Calls Try.prog 87 #[.pointer (some ⟨g,off,none⟩)] W fun e w'=>e=.returned (.tuple #[.int .i64 low,.bool (hf_ok low near)])∧Drawn0 W w':=by
 unfold hf_ok;obtain⟨bl,hbl⟩:∃b,b=(FloatKind.f64.format.order near 4876203697187506176==some .lt):=⟨_,rfl⟩
 obtain⟨bg,hbg⟩:∃b,b=(FloatKind.f64.format.order near 14099575734042281984==some .gt):=⟨_,rfl⟩
 rw [← hbl,← hbg];have HBG:=qAm hbg;clear hbg;cases hw:(decide (-1000000000≤low) && decide (low≤1000000000)) with
 |false=>
  clear hbl;go_enter Try.func87,Try.ntmps87;go_wp2_with fail;refine start_ (n:=25) (S:=fun w'=>w'.cell? ⟨g,off,none⟩=some (.int .i64 low)∧w'.cell? ⟨g,off+1,none⟩=some (.float .f64 near)) (ds:=[]) #[false,false,false,false,false,false,false,false,false,false,false,false,false,false,false,false,false,false,false,false,false,false,false,false,false] (by kernel_rfl) rfl rfl ⟨h0,h1⟩ (fun hHeld=>?_);refine pure_ (i:=0) (N:=some 4) (v:=?_) (a':=?_) #[true,false,false,false,false,false,false,false,false,false,false,false,false,false,false,false,false,false,false,false,false,false,false,false,false] rfl rfl (by kernel_rfl) (fun _ _ _ h=>h) (Or.inl ⟨by rfl,?_⟩) ?_ ?_;rotate_left
  ·intro w';go_simp;try with_reducible rfl
  rotate_left
  ·simp only [Act.put,qSa,qSb,qSc,i64_w,i32_w];rfl
  refine pure_ (i:=1) (N:=some 5) (v:=?_) (a':=?_) #[true,true,false,false,false,false,false,false,false,false,false,false,false,false,false,false,false,false,false,false,false,false,false,false,false] rfl rfl (by kernel_rfl) (fun _ _ _ h=>h) (Or.inl ⟨by rfl,?_⟩) ?_ ?_;rotate_left
  ·intro w';go_simp;try with_reducible rfl
  rotate_left
  ·simp only [Act.put,qSa,qSb,qSc,i64_w,i32_w];rfl
  refine pure_ (i:=2) (N:=some 6) (v:=?_) (a':=?_) #[true,true,true,false,false,false,false,false,false,false,false,false,false,false,false,false,false,false,false,false,false,false,false,false,false] rfl rfl (by kernel_rfl) (fun _ _ _ h=>h) (Or.inl ⟨by rfl,?_⟩) ?_ ?_;rotate_left
  ·intro w';go_simp;try with_reducible rfl
  rotate_left
  ·simp only [Act.put,qSa,qSb,qSc,i64_w,i32_w];rfl
  refine take_ (i:=3) (N:=some 7) (v:=?_) (a':=?_) #[true,true,true,true,false,false,false,false,false,false,false,false,false,false,false,false,false,false,false,false,false,false,false,false,false] rfl rfl (by kernel_rfl) (fun _ _ _ h=>h) (Or.inl ⟨by rfl,?_⟩) hHeld ?_ ?_;rotate_left
  ·rintro w' ⟨s0,s1⟩;go_simp;try with_reducible rfl
  rotate_left
  ·simp only [Act.put,qSa,qSb,qSc,i64_w,i32_w];rfl
  refine pure_ (i:=4) (N:=some 8) (v:=?_) (a':=?_) #[true,true,true,true,true,false,false,false,false,false,false,false,false,false,false,false,false,false,false,false,false,false,false,false,false] rfl rfl (by kernel_rfl) (fun _ _ _ h=>h) (Or.inl ⟨by rfl,?_⟩) ?_ ?_;rotate_left
  ·intro w';go_simp;try with_reducible rfl
  rotate_left
  ·simp only [Act.put,qSa,qSb,qSc,i64_w,i32_w];rfl
  refine pure_ (i:=5) (N:=some 9) (v:=?_) (a':=?_) #[true,true,true,true,true,true,false,false,false,false,false,false,false,false,false,false,false,false,false,false,false,false,false,false,false] rfl rfl (by kernel_rfl) (fun _ _ _ h=>h) (Or.inl ⟨by rfl,?_⟩) ?_ ?_;rotate_left
  ·intro w';go_simp;try with_reducible rfl
  rotate_left
  ·simp only [Act.put,qSa,qSb,qSc,i64_w,i32_w];rfl
  refine pure_ (i:=6) (N:=some 10) (v:=?_) (a':=?_) #[true,true,true,true,true,true,true,false,false,false,false,false,false,false,false,false,false,false,false,false,false,false,false,false,false] rfl rfl (by kernel_rfl) (fun _ _ _ h=>h) (Or.inl ⟨by rfl,?_⟩) ?_ ?_;rotate_left
  ·intro w';go_simp;try with_reducible rfl
  rotate_left
  ·simp only [Act.put,qSa,qSb,qSc,i64_w,i32_w];rfl
  refine take_ (i:=7) (N:=some 11) (v:=?_) (a':=?_) #[true,true,true,true,true,true,true,true,false,false,false,false,false,false,false,false,false,false,false,false,false,false,false,false,false] rfl rfl (by kernel_rfl) (fun _ _ _ h=>h) (Or.inl ⟨by rfl,?_⟩) hHeld ?_ ?_;rotate_left
  ·rintro w' ⟨s0,s1⟩;go_simp;try with_reducible rfl
  rotate_left
  ·simp only [Act.put,qSa,qSb,qSc,i64_w,i32_w];rfl
  refine one_ (i:=8) (N:=some 12) #[true,true,true,true,true,true,true,true,true,false,false,false,false,false,false,false,false,false,false,false,false,false,false,false,false] rfl rfl (by kernel_rfl) (by decide) (fun K hK=>?_);refine goes_ Try.func47 (by kernel_rfl) rfl #[.int .i64 low,.int .i64 (-1000000000),.int .i64 1000000000] (by rfl) rfl rfl qB105 ?_;refine(hf_within _ _ _ _).mono ?_;rw [hw];rintro e w' ⟨rfl,⟨nd,rfl⟩⟩;refine⟨_,rfl,?_⟩;refine hK.out _ _ ⟨h0,h1⟩ (fun hHeld=>?_);clear hK K;refine norm_ (a':=?_) ?_ ?_;rotate_left
  ·show Act.put _ (some 12) _=_
   simp only [Act.put,qSa,qSb,qSc,i64_w,i32_w];rfl
  refine pure_ (i:=9) (N:=some 13) (v:=?_) (a':=?_) #[true,true,true,true,true,true,true,true,true,true,false,false,false,false,false,false,false,false,false,false,false,false,false,false,false] rfl rfl (by kernel_rfl) (fun _ _ _ h=>h) (Or.inl ⟨by rfl,?_⟩) ?_ ?_;rotate_left
  ·intro w';go_simp;try with_reducible rfl
  rotate_left
  ·simp only [Act.put,qSa,qSb,qSc,i64_w,i32_w];rfl
  refine pure_ (i:=10) (N:=some 14) (v:=undef) (a':=?_) #[true,true,true,true,true,true,true,true,true,true,true,false,false,false,false,false,false,false,false,false,false,false,false,false,false] rfl rfl (by kernel_rfl) (fun _ _ _ h=>h) (Or.inr ⟨by rfl,rfl⟩) ?_ ?_;rotate_left
  ·simp only [Act.put,qSa,qSb,qSc,i64_w,i32_w];rfl
  refine pure_ (i:=11) (N:=some 15) (v:=undef) (a':=?_) #[true,true,true,true,true,true,true,true,true,true,true,true,false,false,false,false,false,false,false,false,false,false,false,false,false] rfl rfl (by kernel_rfl) (fun _ _ _ h=>h) (Or.inr ⟨by rfl,rfl⟩) ?_ ?_;rotate_left
  ·simp only [Act.put,qSa,qSb,qSc,i64_w,i32_w];rfl
  refine pure_ (i:=12) (N:=some 16) (v:=undef) (a':=?_) #[true,true,true,true,true,true,true,true,true,true,true,true,true,false,false,false,false,false,false,false,false,false,false,false,false] rfl rfl (by kernel_rfl) (fun _ _ _ h=>h) (Or.inr ⟨by rfl,rfl⟩) ?_ ?_;rotate_left
  ·simp only [Act.put,qSa,qSb,qSc,i64_w,i32_w];rfl
  refine take_ (i:=13) (N:=some 17) (v:=undef) (a':=?_) #[true,true,true,true,true,true,true,true,true,true,true,true,true,true,false,false,false,false,false,false,false,false,false,false,false] rfl rfl (by kernel_rfl) (fun _ _ _ h=>h) (Or.inr ⟨by rfl,rfl⟩) hHeld ?_ ?_;rotate_left
  ·simp only [Act.put,qSa,qSb,qSc,i64_w,i32_w];rfl
  refine pure_ (i:=14) (N:=some 18) (v:=undef) (a':=?_) #[true,true,true,true,true,true,true,true,true,true,true,true,true,true,true,false,false,false,false,false,false,false,false,false,false] rfl rfl (by kernel_rfl) (fun _ _ _ h=>h) (Or.inr ⟨by rfl,rfl⟩) ?_ ?_;rotate_left
  ·simp only [Act.put,qSa,qSb,qSc,i64_w,i32_w];rfl
  refine pure_ (i:=15) (N:=some 19) (v:=?_) (a':=?_) #[true,true,true,true,true,true,true,true,true,true,true,true,true,true,true,true,false,false,false,false,false,false,false,false,false] rfl rfl (by kernel_rfl) (fun _ _ _ h=>h) (Or.inl ⟨by rfl,?_⟩) ?_ ?_;rotate_left
  ·intro w';go_simp;try with_reducible rfl
  rotate_left
  ·simp only [Act.put,qSa,qSb,qSc,i64_w,i32_w];rfl
  refine pure_ (i:=16) (N:=some 20) (v:=?_) (a':=?_) #[true,true,true,true,true,true,true,true,true,true,true,true,true,true,true,true,true,false,false,false,false,false,false,false,false] rfl rfl (by kernel_rfl) (fun _ _ _ h=>h) (Or.inl ⟨by rfl,?_⟩) ?_ ?_;rotate_left
  ·intro w';go_simp;try with_reducible rfl
  rotate_left
  ·simp only [Act.put,qSa,qSb,qSc,i64_w,i32_w];rfl
  refine pure_ (i:=17) (N:=some 21) (v:=undef) (a':=?_) #[true,true,true,true,true,true,true,true,true,true,true,true,true,true,true,true,true,true,false,false,false,false,false,false,false] rfl rfl (by kernel_rfl) (fun _ _ _ h=>h) (Or.inr ⟨by rfl,rfl⟩) ?_ ?_;rotate_left
  ·simp only [Act.put,qSa,qSb,qSc,i64_w,i32_w];rfl
  refine pure_ (i:=18) (N:=some 22) (v:=undef) (a':=?_) #[true,true,true,true,true,true,true,true,true,true,true,true,true,true,true,true,true,true,true,false,false,false,false,false,false] rfl rfl (by kernel_rfl) (fun _ _ _ h=>h) (Or.inr ⟨by rfl,rfl⟩) ?_ ?_;rotate_left
  ·simp only [Act.put,qSa,qSb,qSc,i64_w,i32_w];rfl
  refine pure_ (i:=19) (N:=some 23) (v:=undef) (a':=?_) #[true,true,true,true,true,true,true,true,true,true,true,true,true,true,true,true,true,true,true,true,false,false,false,false,false] rfl rfl (by kernel_rfl) (fun _ _ _ h=>h) (Or.inr ⟨by rfl,rfl⟩) ?_ ?_;rotate_left
  ·simp only [Act.put,qSa,qSb,qSc,i64_w,i32_w];rfl
  refine take_ (i:=20) (N:=some 24) (v:=undef) (a':=?_) #[true,true,true,true,true,true,true,true,true,true,true,true,true,true,true,true,true,true,true,true,true,false,false,false,false] rfl rfl (by kernel_rfl) (fun _ _ _ h=>h) (Or.inr ⟨by rfl,rfl⟩) hHeld ?_ ?_;rotate_left
  ·simp only [Act.put,qSa,qSb,qSc,i64_w,i32_w];rfl
  refine pure_ (i:=21) (N:=some 25) (v:=undef) (a':=?_) #[true,true,true,true,true,true,true,true,true,true,true,true,true,true,true,true,true,true,true,true,true,true,false,false,false] rfl rfl (by kernel_rfl) (fun _ _ _ h=>h) (Or.inr ⟨by rfl,rfl⟩) ?_ ?_;rotate_left
  ·simp only [Act.put,qSa,qSb,qSc,i64_w,i32_w];rfl
  refine pure_ (i:=22) (N:=some 26) (v:=?_) (a':=?_) #[true,true,true,true,true,true,true,true,true,true,true,true,true,true,true,true,true,true,true,true,true,true,true,false,false] rfl rfl (by kernel_rfl) (fun _ _ _ h=>h) (Or.inl ⟨by rfl,?_⟩) ?_ ?_;rotate_left
  ·intro w';go_simp;try with_reducible rfl
  rotate_left
  ·simp only [Act.put,qSa,qSb,qSc,i64_w,i32_w];rfl
  refine pure_ (i:=23) (N:=some 2) (v:=?_) (a':=?_) #[true,true,true,true,true,true,true,true,true,true,true,true,true,true,true,true,true,true,true,true,true,true,true,true,false] rfl rfl (by kernel_rfl) (fun _ _ _ h=>h) (Or.inl ⟨by rfl,?_⟩) ?_ ?_;rotate_left
  ·intro w';go_simp;try with_reducible rfl
  rotate_left
  ·simp only [Act.put,qSa,qSb,qSc,i64_w,i32_w];rfl
  refine pure_ (i:=24) (N:=some 3) (v:=?_) (a':=?_) #[true,true,true,true,true,true,true,true,true,true,true,true,true,true,true,true,true,true,true,true,true,true,true,true,true] rfl rfl (by kernel_rfl) (fun _ _ _ h=>h) (Or.inl ⟨by rfl,?_⟩) ?_ ?_;rotate_left
  ·intro w';go_simp;try with_reducible rfl
  rotate_left
  ·simp only [Act.put,qSa,qSb,qSc,i64_w,i32_w];rfl
  refine done_ (by kernel_rfl) ?_;go_wp2
  first|go_ret2|go_ret
  exact⟨by simp_all,by repeat(first|exact Drawn0.refl _|apply Drawn0.step)⟩
 |true=>
  cases bl with
  |false=>
   have HBL:=qAm hbl;clear hbl;go_enter Try.func87,Try.ntmps87;go_wp2_with fail;refine start_ (n:=25) (S:=fun w'=>w'.cell? ⟨g,off,none⟩=some (.int .i64 low)∧w'.cell? ⟨g,off+1,none⟩=some (.float .f64 near)) (ds:=[]) #[false,false,false,false,false,false,false,false,false,false,false,false,false,false,false,false,false,false,false,false,false,false,false,false,false] (by kernel_rfl) rfl rfl ⟨h0,h1⟩ (fun hHeld=>?_);refine pure_ (i:=0) (N:=some 4) (v:=?_) (a':=?_) #[true,false,false,false,false,false,false,false,false,false,false,false,false,false,false,false,false,false,false,false,false,false,false,false,false] rfl rfl (by kernel_rfl) (fun _ _ _ h=>h) (Or.inl ⟨by rfl,?_⟩) ?_ ?_;rotate_left
   ·intro w';go_simp;try with_reducible rfl
   rotate_left
   ·simp only [Act.put,qSa,qSb,qSc,i64_w,i32_w];rfl
   refine pure_ (i:=1) (N:=some 5) (v:=?_) (a':=?_) #[true,true,false,false,false,false,false,false,false,false,false,false,false,false,false,false,false,false,false,false,false,false,false,false,false] rfl rfl (by kernel_rfl) (fun _ _ _ h=>h) (Or.inl ⟨by rfl,?_⟩) ?_ ?_;rotate_left
   ·intro w';go_simp;try with_reducible rfl
   rotate_left
   ·simp only [Act.put,qSa,qSb,qSc,i64_w,i32_w];rfl
   refine pure_ (i:=2) (N:=some 6) (v:=?_) (a':=?_) #[true,true,true,false,false,false,false,false,false,false,false,false,false,false,false,false,false,false,false,false,false,false,false,false,false] rfl rfl (by kernel_rfl) (fun _ _ _ h=>h) (Or.inl ⟨by rfl,?_⟩) ?_ ?_;rotate_left
   ·intro w';go_simp;try with_reducible rfl
   rotate_left
   ·simp only [Act.put,qSa,qSb,qSc,i64_w,i32_w];rfl
   refine take_ (i:=3) (N:=some 7) (v:=?_) (a':=?_) #[true,true,true,true,false,false,false,false,false,false,false,false,false,false,false,false,false,false,false,false,false,false,false,false,false] rfl rfl (by kernel_rfl) (fun _ _ _ h=>h) (Or.inl ⟨by rfl,?_⟩) hHeld ?_ ?_;rotate_left
   ·rintro w' ⟨s0,s1⟩;go_simp;try with_reducible rfl
   rotate_left
   ·simp only [Act.put,qSa,qSb,qSc,i64_w,i32_w];rfl
   refine pure_ (i:=4) (N:=some 8) (v:=?_) (a':=?_) #[true,true,true,true,true,false,false,false,false,false,false,false,false,false,false,false,false,false,false,false,false,false,false,false,false] rfl rfl (by kernel_rfl) (fun _ _ _ h=>h) (Or.inl ⟨by rfl,?_⟩) ?_ ?_;rotate_left
   ·intro w';go_simp;try with_reducible rfl
   rotate_left
   ·simp only [Act.put,qSa,qSb,qSc,i64_w,i32_w];rfl
   refine pure_ (i:=5) (N:=some 9) (v:=?_) (a':=?_) #[true,true,true,true,true,true,false,false,false,false,false,false,false,false,false,false,false,false,false,false,false,false,false,false,false] rfl rfl (by kernel_rfl) (fun _ _ _ h=>h) (Or.inl ⟨by rfl,?_⟩) ?_ ?_;rotate_left
   ·intro w';go_simp;try with_reducible rfl
   rotate_left
   ·simp only [Act.put,qSa,qSb,qSc,i64_w,i32_w];rfl
   refine pure_ (i:=6) (N:=some 10) (v:=?_) (a':=?_) #[true,true,true,true,true,true,true,false,false,false,false,false,false,false,false,false,false,false,false,false,false,false,false,false,false] rfl rfl (by kernel_rfl) (fun _ _ _ h=>h) (Or.inl ⟨by rfl,?_⟩) ?_ ?_;rotate_left
   ·intro w';go_simp;try with_reducible rfl
   rotate_left
   ·simp only [Act.put,qSa,qSb,qSc,i64_w,i32_w];rfl
   refine take_ (i:=7) (N:=some 11) (v:=?_) (a':=?_) #[true,true,true,true,true,true,true,true,false,false,false,false,false,false,false,false,false,false,false,false,false,false,false,false,false] rfl rfl (by kernel_rfl) (fun _ _ _ h=>h) (Or.inl ⟨by rfl,?_⟩) hHeld ?_ ?_;rotate_left
   ·rintro w' ⟨s0,s1⟩;go_simp;try with_reducible rfl
   rotate_left
   ·simp only [Act.put,qSa,qSb,qSc,i64_w,i32_w];rfl
   refine one_ (i:=8) (N:=some 12) #[true,true,true,true,true,true,true,true,true,false,false,false,false,false,false,false,false,false,false,false,false,false,false,false,false] rfl rfl (by kernel_rfl) (by decide) (fun K hK=>?_);refine goes_ Try.func47 (by kernel_rfl) rfl #[.int .i64 low,.int .i64 (-1000000000),.int .i64 1000000000] (by rfl) rfl rfl qB105 ?_;refine(hf_within _ _ _ _).mono ?_;rw [hw];rintro e w' ⟨rfl,⟨nd,rfl⟩⟩;refine⟨_,rfl,?_⟩;refine hK.out _ _ ⟨h0,h1⟩ (fun hHeld=>?_);clear hK K;refine norm_ (a':=?_) ?_ ?_;rotate_left
   ·show Act.put _ (some 12) _=_
    simp only [Act.put,qSa,qSb,qSc,i64_w,i32_w];rfl
   refine pure_ (i:=9) (N:=some 13) (v:=?_) (a':=?_) #[true,true,true,true,true,true,true,true,true,true,false,false,false,false,false,false,false,false,false,false,false,false,false,false,false] rfl rfl (by kernel_rfl) (fun _ _ _ h=>h) (Or.inl ⟨by rfl,?_⟩) ?_ ?_;rotate_left
   ·intro w';go_simp;try with_reducible rfl
   rotate_left
   ·simp only [Act.put,qSa,qSb,qSc,i64_w,i32_w];rfl
   refine pure_ (i:=10) (N:=some 14) (v:=?_) (a':=?_) #[true,true,true,true,true,true,true,true,true,true,true,false,false,false,false,false,false,false,false,false,false,false,false,false,false] rfl rfl (by kernel_rfl) (fun _ _ _ h=>h) (Or.inl ⟨by rfl,?_⟩) ?_ ?_;rotate_left
   ·intro w';go_simp;try with_reducible rfl
   rotate_left
   ·simp only [Act.put,qSa,qSb,qSc,i64_w,i32_w];rfl
   refine pure_ (i:=11) (N:=some 15) (v:=?_) (a':=?_) #[true,true,true,true,true,true,true,true,true,true,true,true,false,false,false,false,false,false,false,false,false,false,false,false,false] rfl rfl (by kernel_rfl) (fun _ _ _ h=>h) (Or.inl ⟨by rfl,?_⟩) ?_ ?_;rotate_left
   ·intro w';go_simp;try with_reducible rfl
   rotate_left
   ·simp only [Act.put,qSa,qSb,qSc,i64_w,i32_w];rfl
   refine pure_ (i:=12) (N:=some 16) (v:=?_) (a':=?_) #[true,true,true,true,true,true,true,true,true,true,true,true,true,false,false,false,false,false,false,false,false,false,false,false,false] rfl rfl (by kernel_rfl) (fun _ _ _ h=>h) (Or.inl ⟨by rfl,?_⟩) ?_ ?_;rotate_left
   ·intro w';go_simp;try with_reducible rfl
   rotate_left
   ·simp only [Act.put,qSa,qSb,qSc,i64_w,i32_w];rfl
   refine take_ (i:=13) (N:=some 17) (v:=?_) (a':=?_) #[true,true,true,true,true,true,true,true,true,true,true,true,true,true,false,false,false,false,false,false,false,false,false,false,false] rfl rfl (by kernel_rfl) (fun _ _ _ h=>h) (Or.inl ⟨by rfl,?_⟩) hHeld ?_ ?_;rotate_left
   ·rintro w' ⟨s0,s1⟩;go_simp;try with_reducible rfl
   rotate_left
   ·simp only [Act.put,qSa,qSb,qSc,i64_w,i32_w];rfl
   refine pure_ (i:=14) (N:=some 18) (v:=?_) (a':=?_) #[true,true,true,true,true,true,true,true,true,true,true,true,true,true,true,false,false,false,false,false,false,false,false,false,false] rfl rfl (by kernel_rfl) (fun _ _ _ h=>h) (Or.inl ⟨by rfl,?_⟩) ?_ ?_;rotate_left
   ·intro w';go_simp;rw [← HBL.1];try with_reducible rfl
   rotate_left
   ·simp only [Act.put,qSa,qSb,qSc,i64_w,i32_w];rfl
   refine pure_ (i:=15) (N:=some 19) (v:=?_) (a':=?_) #[true,true,true,true,true,true,true,true,true,true,true,true,true,true,true,true,false,false,false,false,false,false,false,false,false] rfl rfl (by kernel_rfl) (fun _ _ _ h=>h) (Or.inl ⟨by rfl,?_⟩) ?_ ?_;rotate_left
   ·intro w';go_simp;try with_reducible rfl
   rotate_left
   ·simp only [Act.put,qSa,qSb,qSc,i64_w,i32_w];rfl
   refine pure_ (i:=16) (N:=some 20) (v:=?_) (a':=?_) #[true,true,true,true,true,true,true,true,true,true,true,true,true,true,true,true,true,false,false,false,false,false,false,false,false] rfl rfl (by kernel_rfl) (fun _ _ _ h=>h) (Or.inl ⟨by rfl,?_⟩) ?_ ?_;rotate_left
   ·intro w';go_simp;try with_reducible rfl
   rotate_left
   ·simp only [Act.put,qSa,qSb,qSc,i64_w,i32_w];rfl
   refine pure_ (i:=17) (N:=some 21) (v:=undef) (a':=?_) #[true,true,true,true,true,true,true,true,true,true,true,true,true,true,true,true,true,true,false,false,false,false,false,false,false] rfl rfl (by kernel_rfl) (fun _ _ _ h=>h) (Or.inr ⟨by rfl,rfl⟩) ?_ ?_;rotate_left
   ·simp only [Act.put,qSa,qSb,qSc,i64_w,i32_w];rfl
   refine pure_ (i:=18) (N:=some 22) (v:=undef) (a':=?_) #[true,true,true,true,true,true,true,true,true,true,true,true,true,true,true,true,true,true,true,false,false,false,false,false,false] rfl rfl (by kernel_rfl) (fun _ _ _ h=>h) (Or.inr ⟨by rfl,rfl⟩) ?_ ?_;rotate_left
   ·simp only [Act.put,qSa,qSb,qSc,i64_w,i32_w];rfl
   refine pure_ (i:=19) (N:=some 23) (v:=undef) (a':=?_) #[true,true,true,true,true,true,true,true,true,true,true,true,true,true,true,true,true,true,true,true,false,false,false,false,false] rfl rfl (by kernel_rfl) (fun _ _ _ h=>h) (Or.inr ⟨by rfl,rfl⟩) ?_ ?_;rotate_left
   ·simp only [Act.put,qSa,qSb,qSc,i64_w,i32_w];rfl
   refine take_ (i:=20) (N:=some 24) (v:=undef) (a':=?_) #[true,true,true,true,true,true,true,true,true,true,true,true,true,true,true,true,true,true,true,true,true,false,false,false,false] rfl rfl (by kernel_rfl) (fun _ _ _ h=>h) (Or.inr ⟨by rfl,rfl⟩) hHeld ?_ ?_;rotate_left
   ·simp only [Act.put,qSa,qSb,qSc,i64_w,i32_w];rfl
   refine pure_ (i:=21) (N:=some 25) (v:=undef) (a':=?_) #[true,true,true,true,true,true,true,true,true,true,true,true,true,true,true,true,true,true,true,true,true,true,false,false,false] rfl rfl (by kernel_rfl) (fun _ _ _ h=>h) (Or.inr ⟨by rfl,rfl⟩) ?_ ?_;rotate_left
   ·simp only [Act.put,qSa,qSb,qSc,i64_w,i32_w];rfl
   refine pure_ (i:=22) (N:=some 26) (v:=?_) (a':=?_) #[true,true,true,true,true,true,true,true,true,true,true,true,true,true,true,true,true,true,true,true,true,true,true,false,false] rfl rfl (by kernel_rfl) (fun _ _ _ h=>h) (Or.inl ⟨by rfl,?_⟩) ?_ ?_;rotate_left
   ·intro w';go_simp;try with_reducible rfl
   rotate_left
   ·simp only [Act.put,qSa,qSb,qSc,i64_w,i32_w];rfl
   refine pure_ (i:=23) (N:=some 2) (v:=?_) (a':=?_) #[true,true,true,true,true,true,true,true,true,true,true,true,true,true,true,true,true,true,true,true,true,true,true,true,false] rfl rfl (by kernel_rfl) (fun _ _ _ h=>h) (Or.inl ⟨by rfl,?_⟩) ?_ ?_;rotate_left
   ·intro w';go_simp;try with_reducible rfl
   rotate_left
   ·simp only [Act.put,qSa,qSb,qSc,i64_w,i32_w];rfl
   refine pure_ (i:=24) (N:=some 3) (v:=?_) (a':=?_) #[true,true,true,true,true,true,true,true,true,true,true,true,true,true,true,true,true,true,true,true,true,true,true,true,true] rfl rfl (by kernel_rfl) (fun _ _ _ h=>h) (Or.inl ⟨by rfl,?_⟩) ?_ ?_;rotate_left
   ·intro w';go_simp;try with_reducible rfl
   rotate_left
   ·simp only [Act.put,qSa,qSb,qSc,i64_w,i32_w];rfl
   refine done_ (by kernel_rfl) ?_;go_wp2
   first|go_ret2|go_ret
   exact⟨by simp_all,by repeat(first|exact Drawn0.refl _|apply Drawn0.step)⟩
  |true=>
   have HBL:=qAm hbl;clear hbl;go_enter Try.func87,Try.ntmps87;go_wp2_with fail;refine start_ (n:=25) (S:=fun w'=>w'.cell? ⟨g,off,none⟩=some (.int .i64 low)∧w'.cell? ⟨g,off+1,none⟩=some (.float .f64 near)) (ds:=[]) #[false,false,false,false,false,false,false,false,false,false,false,false,false,false,false,false,false,false,false,false,false,false,false,false,false] (by kernel_rfl) rfl rfl ⟨h0,h1⟩ (fun hHeld=>?_);refine pure_ (i:=0) (N:=some 4) (v:=?_) (a':=?_) #[true,false,false,false,false,false,false,false,false,false,false,false,false,false,false,false,false,false,false,false,false,false,false,false,false] rfl rfl (by kernel_rfl) (fun _ _ _ h=>h) (Or.inl ⟨by rfl,?_⟩) ?_ ?_;rotate_left
   ·intro w';go_simp;try with_reducible rfl
   rotate_left
   ·simp only [Act.put,qSa,qSb,qSc,i64_w,i32_w];rfl
   refine pure_ (i:=1) (N:=some 5) (v:=?_) (a':=?_) #[true,true,false,false,false,false,false,false,false,false,false,false,false,false,false,false,false,false,false,false,false,false,false,false,false] rfl rfl (by kernel_rfl) (fun _ _ _ h=>h) (Or.inl ⟨by rfl,?_⟩) ?_ ?_;rotate_left
   ·intro w';go_simp;try with_reducible rfl
   rotate_left
   ·simp only [Act.put,qSa,qSb,qSc,i64_w,i32_w];rfl
   refine pure_ (i:=2) (N:=some 6) (v:=?_) (a':=?_) #[true,true,true,false,false,false,false,false,false,false,false,false,false,false,false,false,false,false,false,false,false,false,false,false,false] rfl rfl (by kernel_rfl) (fun _ _ _ h=>h) (Or.inl ⟨by rfl,?_⟩) ?_ ?_;rotate_left
   ·intro w';go_simp;try with_reducible rfl
   rotate_left
   ·simp only [Act.put,qSa,qSb,qSc,i64_w,i32_w];rfl
   refine take_ (i:=3) (N:=some 7) (v:=?_) (a':=?_) #[true,true,true,true,false,false,false,false,false,false,false,false,false,false,false,false,false,false,false,false,false,false,false,false,false] rfl rfl (by kernel_rfl) (fun _ _ _ h=>h) (Or.inl ⟨by rfl,?_⟩) hHeld ?_ ?_;rotate_left
   ·rintro w' ⟨s0,s1⟩;go_simp;try with_reducible rfl
   rotate_left
   ·simp only [Act.put,qSa,qSb,qSc,i64_w,i32_w];rfl
   refine pure_ (i:=4) (N:=some 8) (v:=?_) (a':=?_) #[true,true,true,true,true,false,false,false,false,false,false,false,false,false,false,false,false,false,false,false,false,false,false,false,false] rfl rfl (by kernel_rfl) (fun _ _ _ h=>h) (Or.inl ⟨by rfl,?_⟩) ?_ ?_;rotate_left
   ·intro w';go_simp;try with_reducible rfl
   rotate_left
   ·simp only [Act.put,qSa,qSb,qSc,i64_w,i32_w];rfl
   refine pure_ (i:=5) (N:=some 9) (v:=?_) (a':=?_) #[true,true,true,true,true,true,false,false,false,false,false,false,false,false,false,false,false,false,false,false,false,false,false,false,false] rfl rfl (by kernel_rfl) (fun _ _ _ h=>h) (Or.inl ⟨by rfl,?_⟩) ?_ ?_;rotate_left
   ·intro w';go_simp;try with_reducible rfl
   rotate_left
   ·simp only [Act.put,qSa,qSb,qSc,i64_w,i32_w];rfl
   refine pure_ (i:=6) (N:=some 10) (v:=?_) (a':=?_) #[true,true,true,true,true,true,true,false,false,false,false,false,false,false,false,false,false,false,false,false,false,false,false,false,false] rfl rfl (by kernel_rfl) (fun _ _ _ h=>h) (Or.inl ⟨by rfl,?_⟩) ?_ ?_;rotate_left
   ·intro w';go_simp;try with_reducible rfl
   rotate_left
   ·simp only [Act.put,qSa,qSb,qSc,i64_w,i32_w];rfl
   refine take_ (i:=7) (N:=some 11) (v:=?_) (a':=?_) #[true,true,true,true,true,true,true,true,false,false,false,false,false,false,false,false,false,false,false,false,false,false,false,false,false] rfl rfl (by kernel_rfl) (fun _ _ _ h=>h) (Or.inl ⟨by rfl,?_⟩) hHeld ?_ ?_;rotate_left
   ·rintro w' ⟨s0,s1⟩;go_simp;try with_reducible rfl
   rotate_left
   ·simp only [Act.put,qSa,qSb,qSc,i64_w,i32_w];rfl
   refine one_ (i:=8) (N:=some 12) #[true,true,true,true,true,true,true,true,true,false,false,false,false,false,false,false,false,false,false,false,false,false,false,false,false] rfl rfl (by kernel_rfl) (by decide) (fun K hK=>?_);refine goes_ Try.func47 (by kernel_rfl) rfl #[.int .i64 low,.int .i64 (-1000000000),.int .i64 1000000000] (by rfl) rfl rfl qB105 ?_;refine(hf_within _ _ _ _).mono ?_;rw [hw];rintro e w' ⟨rfl,⟨nd,rfl⟩⟩;refine⟨_,rfl,?_⟩;refine hK.out _ _ ⟨h0,h1⟩ (fun hHeld=>?_);clear hK K;refine norm_ (a':=?_) ?_ ?_;rotate_left
   ·show Act.put _ (some 12) _=_
    simp only [Act.put,qSa,qSb,qSc,i64_w,i32_w];rfl
   refine pure_ (i:=9) (N:=some 13) (v:=?_) (a':=?_) #[true,true,true,true,true,true,true,true,true,true,false,false,false,false,false,false,false,false,false,false,false,false,false,false,false] rfl rfl (by kernel_rfl) (fun _ _ _ h=>h) (Or.inl ⟨by rfl,?_⟩) ?_ ?_;rotate_left
   ·intro w';go_simp;try with_reducible rfl
   rotate_left
   ·simp only [Act.put,qSa,qSb,qSc,i64_w,i32_w];rfl
   refine pure_ (i:=10) (N:=some 14) (v:=?_) (a':=?_) #[true,true,true,true,true,true,true,true,true,true,true,false,false,false,false,false,false,false,false,false,false,false,false,false,false] rfl rfl (by kernel_rfl) (fun _ _ _ h=>h) (Or.inl ⟨by rfl,?_⟩) ?_ ?_;rotate_left
   ·intro w';go_simp;try with_reducible rfl
   rotate_left
   ·simp only [Act.put,qSa,qSb,qSc,i64_w,i32_w];rfl
   refine pure_ (i:=11) (N:=some 15) (v:=?_) (a':=?_) #[true,true,true,true,true,true,true,true,true,true,true,true,false,false,false,false,false,false,false,false,false,false,false,false,false] rfl rfl (by kernel_rfl) (fun _ _ _ h=>h) (Or.inl ⟨by rfl,?_⟩) ?_ ?_;rotate_left
   ·intro w';go_simp;try with_reducible rfl
   rotate_left
   ·simp only [Act.put,qSa,qSb,qSc,i64_w,i32_w];rfl
   refine pure_ (i:=12) (N:=some 16) (v:=?_) (a':=?_) #[true,true,true,true,true,true,true,true,true,true,true,true,true,false,false,false,false,false,false,false,false,false,false,false,false] rfl rfl (by kernel_rfl) (fun _ _ _ h=>h) (Or.inl ⟨by rfl,?_⟩) ?_ ?_;rotate_left
   ·intro w';go_simp;try with_reducible rfl
   rotate_left
   ·simp only [Act.put,qSa,qSb,qSc,i64_w,i32_w];rfl
   refine take_ (i:=13) (N:=some 17) (v:=?_) (a':=?_) #[true,true,true,true,true,true,true,true,true,true,true,true,true,true,false,false,false,false,false,false,false,false,false,false,false] rfl rfl (by kernel_rfl) (fun _ _ _ h=>h) (Or.inl ⟨by rfl,?_⟩) hHeld ?_ ?_;rotate_left
   ·rintro w' ⟨s0,s1⟩;go_simp;try with_reducible rfl
   rotate_left
   ·simp only [Act.put,qSa,qSb,qSc,i64_w,i32_w];rfl
   refine pure_ (i:=14) (N:=some 18) (v:=?_) (a':=?_) #[true,true,true,true,true,true,true,true,true,true,true,true,true,true,true,false,false,false,false,false,false,false,false,false,false] rfl rfl (by kernel_rfl) (fun _ _ _ h=>h) (Or.inl ⟨by rfl,?_⟩) ?_ ?_;rotate_left
   ·intro w';go_simp;rw [← HBL.1];try with_reducible rfl
   rotate_left
   ·simp only [Act.put,qSa,qSb,qSc,i64_w,i32_w];rfl
   refine pure_ (i:=15) (N:=some 19) (v:=?_) (a':=?_) #[true,true,true,true,true,true,true,true,true,true,true,true,true,true,true,true,false,false,false,false,false,false,false,false,false] rfl rfl (by kernel_rfl) (fun _ _ _ h=>h) (Or.inl ⟨by rfl,?_⟩) ?_ ?_;rotate_left
   ·intro w';go_simp;try with_reducible rfl
   rotate_left
   ·simp only [Act.put,qSa,qSb,qSc,i64_w,i32_w];rfl
   refine pure_ (i:=16) (N:=some 20) (v:=?_) (a':=?_) #[true,true,true,true,true,true,true,true,true,true,true,true,true,true,true,true,true,false,false,false,false,false,false,false,false] rfl rfl (by kernel_rfl) (fun _ _ _ h=>h) (Or.inl ⟨by rfl,?_⟩) ?_ ?_;rotate_left
   ·intro w';go_simp;try with_reducible rfl
   rotate_left
   ·simp only [Act.put,qSa,qSb,qSc,i64_w,i32_w];rfl
   refine pure_ (i:=17) (N:=some 21) (v:=?_) (a':=?_) #[true,true,true,true,true,true,true,true,true,true,true,true,true,true,true,true,true,true,false,false,false,false,false,false,false] rfl rfl (by kernel_rfl) (fun _ _ _ h=>h) (Or.inl ⟨by rfl,?_⟩) ?_ ?_;rotate_left
   ·intro w';go_simp;try with_reducible rfl
   rotate_left
   ·simp only [Act.put,qSa,qSb,qSc,i64_w,i32_w];rfl
   refine pure_ (i:=18) (N:=some 22) (v:=?_) (a':=?_) #[true,true,true,true,true,true,true,true,true,true,true,true,true,true,true,true,true,true,true,false,false,false,false,false,false] rfl rfl (by kernel_rfl) (fun _ _ _ h=>h) (Or.inl ⟨by rfl,?_⟩) ?_ ?_;rotate_left
   ·intro w';go_simp;try with_reducible rfl
   rotate_left
   ·simp only [Act.put,qSa,qSb,qSc,i64_w,i32_w];rfl
   refine pure_ (i:=19) (N:=some 23) (v:=?_) (a':=?_) #[true,true,true,true,true,true,true,true,true,true,true,true,true,true,true,true,true,true,true,true,false,false,false,false,false] rfl rfl (by kernel_rfl) (fun _ _ _ h=>h) (Or.inl ⟨by rfl,?_⟩) ?_ ?_;rotate_left
   ·intro w';go_simp;try with_reducible rfl
   rotate_left
   ·simp only [Act.put,qSa,qSb,qSc,i64_w,i32_w];rfl
   refine take_ (i:=20) (N:=some 24) (v:=?_) (a':=?_) #[true,true,true,true,true,true,true,true,true,true,true,true,true,true,true,true,true,true,true,true,true,false,false,false,false] rfl rfl (by kernel_rfl) (fun _ _ _ h=>h) (Or.inl ⟨by rfl,?_⟩) hHeld ?_ ?_;rotate_left
   ·rintro w' ⟨s0,s1⟩;go_simp;try with_reducible rfl
   rotate_left
   ·simp only [Act.put,qSa,qSb,qSc,i64_w,i32_w];rfl
   refine pure_ (i:=21) (N:=some 25) (v:=?_) (a':=?_) #[true,true,true,true,true,true,true,true,true,true,true,true,true,true,true,true,true,true,true,true,true,true,false,false,false] rfl rfl (by kernel_rfl) (fun _ _ _ h=>h) (Or.inl ⟨by rfl,?_⟩) ?_ ?_;rotate_left
   ·intro w';go_simp;rw [← HBG.1];try with_reducible rfl
   rotate_left
   ·simp only [Act.put,qSa,qSb,qSc,i64_w,i32_w];rfl
   refine pure_ (i:=22) (N:=some 26) (v:=?_) (a':=?_) #[true,true,true,true,true,true,true,true,true,true,true,true,true,true,true,true,true,true,true,true,true,true,true,false,false] rfl rfl (by kernel_rfl) (fun _ _ _ h=>h) (Or.inl ⟨by rfl,?_⟩) ?_ ?_;rotate_left
   ·intro w';go_simp;try with_reducible rfl
   rotate_left
   ·simp only [Act.put,qSa,qSb,qSc,i64_w,i32_w];rfl
   refine pure_ (i:=23) (N:=some 2) (v:=?_) (a':=?_) #[true,true,true,true,true,true,true,true,true,true,true,true,true,true,true,true,true,true,true,true,true,true,true,true,false] rfl rfl (by kernel_rfl) (fun _ _ _ h=>h) (Or.inl ⟨by rfl,?_⟩) ?_ ?_;rotate_left
   ·intro w';go_simp;try with_reducible rfl
   rotate_left
   ·simp only [Act.put,qSa,qSb,qSc,i64_w,i32_w];rfl
   refine pure_ (i:=24) (N:=some 3) (v:=?_) (a':=?_) #[true,true,true,true,true,true,true,true,true,true,true,true,true,true,true,true,true,true,true,true,true,true,true,true,true] rfl rfl (by kernel_rfl) (fun _ _ _ h=>h) (Or.inl ⟨by rfl,?_⟩) ?_ ?_;rotate_left
   ·intro w';go_simp;try with_reducible rfl
   rotate_left
   ·simp only [Act.put,qSa,qSb,qSc,i64_w,i32_w];rfl
   refine done_ (by kernel_rfl) ?_;go_wp2
   first|go_ret2|go_ret
   exact⟨by simp_all,by repeat(first|exact Drawn0.refl _|apply Drawn0.step)⟩

theorem hf_info:(Try.prog.info? 2).map (fun i=>(i.zero,i.size,i.bytes))=some (some (.int .i64 0),1,8):=by kernel_rfl
theorem hf_take {α:Type} (S:List α) (k:Nat) (h:k<S.length):S.take (k+1)=S.take k ++ [S[k]]:=by rw [List.take_succ_eq_append_getElem h]
set_option maxHeartbeats 400000 in
set_option maxRecDepth 100000 in
theorem hf_values (g cap base0 L:Nat) (S:List (Int×Nat)) (w:World) (hL:L=S.length) (h:hf_row w base0 g S) (hS:S.length≤1000000) (hlt:g<w.heap.size):
  Calls Try.prog 67 #[.slice (some ⟨g,0,none⟩) L cap] w fun e w'=>∃v,e=.returned (.tuple #[v,.bool (S.all fun s=>hf_ok s.1 s.2)])∧Kd.R (Kd.int .i64) 2 w' w.heap.size (fun _=>True) v (S.map (·.1))∧Below w.heap.size w w':=by
 subst hL;have HR:=qAm h;have HS:=qAm hS;have HL:=qAm hlt;have hS2:S.length≤9223372036854775807:=by omega
 clear h hS hlt;go_enter Try.func67,Try.ntmps67;go_wp2_with (first|((with_reducible refine gate_dst (N:=9) rfl ?_);refine Kd.R_lit (Kd.int .i64) _ 2 ?hg (N:=9) ?hd (xs:=([]:List Int)) (inner:=[]) (ok:=fun _=>True) (okp:=fun _=>True) ?hr ?hp (fun _ hk=>hk) trivial (Below.refl _ _) (Nat.le_refl _) (by simp) ?_;(case hd=>rfl);(case hg=>rfl);(case hr=>first|(go_simp;done)|(go_simp;rfl));(case hp=>exact(Reps.none _ _));intro v1 w1 ho hb hg_ hnew_;clear hg_ hnew_;have HO:=qAm ho;have HB:=qAm hb;clear ho hb));go_loopg [4,5,12] (S.length+1) (fun kq v4 v5 v12 w'=>∃k:Nat,v12=.int .i64 k∧v5=.bool ((S.take k).all fun s=>hf_ok s.1 s.2)∧Aside0 (kq+k=S.length+1∧k≤S.length)∧Aside0 (Kd.R (Kd.int .i64) 2 w' w.heap.size (fun _=>True) v4 ((S.take k).map (·.1)))∧Aside0 (Below w.heap.size w w'))
 case atStart=>exact⟨0,rfl,by simp,⟨by omega,by omega⟩,HO,HB⟩
 case round=>
  clear HO HB;obtain⟨k,rfl,rfl,HA,HO,HB⟩:=hrel
  by_cases hlt:k<S.length
  ·obtain⟨⟨x0,x1⟩,_,_⟩:=hf_cells HR.1 k hlt;have y0:=pw_cell_below HB.1 x0;have y1:=pw_cell_below HB.1 x1;clear x0 x1;obtain⟨lo,ne,hs⟩:∃lo ne,S.getD k (0,0)=(lo,ne):=⟨_,_,rfl⟩
   have hs1:S[k]=(lo,ne):=by rw [← hs,List.getD_eq_getElem?_getD,List.getElem?_eq_getElem hlt];rfl
   rw [hs] at y0 y1;obtain⟨b1,hb1⟩:∃b1,((S.take k).all fun s=>hf_ok s.1 s.2)=b1:=⟨_,rfl⟩
   have HV:=qAm (show((S.take (k+1)).all fun s=>hf_ok s.1 s.2)=(b1 && hf_ok lo ne) by rw [hf_take S k hlt,List.all_append,hb1,hs1];simp);have HM:=qAm (show(S.take (k+1)).map (·.1)=(S.take k).map (·.1) ++ [lo] by rw [hf_take S k hlt,List.map_append,hs1];rfl);rw [hb1];clear hs hs1 hb1
   rcases b1 with _|_
   all_goals
    go_wp2_with (first|(go_at_call 87;refine(hf_value g (k*2) _ _ _ (by rw [Nat.mul_comm];exact y0) (by rw [Nat.mul_comm];exact y1)).mono ?_;rintro e w' ⟨rfl,⟨nd,rfl⟩⟩)|((with_reducible refine gate_builtin (b:=.append) (xs:=#[.tmp 22,.tmp 24]) rfl ?_);at_builtin;refine Kd.R_append (Kd.int .i64) (w0:=w) w.heap.size rfl (.tmp 22) (.tmp 24) 22 2 (.int .i64 0) 8 rfl Try.underlying22 hf_info rfl (by decide) (by omega) u4 ((S.take k).map (·.1)) lo [.int .i64 lo] (fun _=>True) (fun _=>False) rfl rfl ?aP (fun _ hk=>hk.elim) ?aF ?aO ?aB ?aS ?aL ?_;(case aP=>exact rfl);(case aB=>exact qB53);(case aF=>exact(fun _ _=>trivial));(case aO=>exact(by (with_reducible repeat(first|apply Kd.R_alloc|apply Kd.R_drewN|apply Kd.R_drew));exact HO.1));(case aS=>exact(below_size qB53));(case aL=>have:=HS.1;rw [List.length_map,List.length_take];omega);intro v9 w9 ho hb hg hat;have HO9:=qAm ho;have HB9:=qAm hb;clear ho hb hg hat));go_roundg (gk - 1)
    case measure=>have:=HA.1;omega
    case rel=>exact⟨k+1,by go_num,by rw [HV.1];simp,⟨by have:=HA.1;omega,by omega⟩,⟨by rw [HM.1];exact HO9.1⟩,HB9⟩
  ·go_wp2
   first|go_ret2|go_ret
   have e:k=S.length:=by have:=HA.1;omega
   subst e;exact⟨u4,by simp,by simpa using HO.1,HB.1⟩

def hf_l3 (x y:Int):List Int→Nat→List (Int×Nat)→Option (List (Int×Nat))
 |[],_,S=>some S
 |n::r,m,S=>(if n=0 then some S else if m<S.length then (hf_step (S.getD m (0,0)) (wrap64 (n*x)) y).map (fun s=>S.set m s) else none).bind fun S'=>hf_l3 x y r (m+1) S'
def hf_l2 (o:Int) (pw:List (List Int)) (x:Int) (i:Nat):List Int→Nat→List (Int×Nat)→Option (List (Int×Nat))
 |[],_,S=>some S
 |y::r,k,S=>(if x=0∨y=0 then some S else if o=0 then none else if 0≤Int.tmod (wrap64 ((i:Int)+k)) o∧Int.tmod (wrap64 ((i:Int)+k)) o<(pw.length:Int) then hf_l3 x y (rd_L1 pw (Int.tmod (wrap64 ((i:Int)+k)) o)) 0 S else none).bind fun S'=>hf_l2 o pw x i r (k+1) S'
def hf_l1 (o:Int) (pw:List (List Int)) (b:List Int):List Int→Nat→List (Int×Nat)→Option (List (Int×Nat))
 |[],_,S=>some S
 |x::r,i,S=>(hf_l2 o pw x i b 0 S).bind fun S'=>hf_l1 o pw b r (i+1) S'
theorem hf_l3_len (x y:Int):∀(r:List Int) (m:Nat) (S S':List (Int×Nat)),hf_l3 x y r m S=some S'→S'.length=S.length
 |[],m,S,S',h=>by cases h;rfl
 |n::r,m,S,S',h=>by
  obtain⟨S1,h1,h2⟩:=qOb h;rw [hf_l3_len x y r (m+1) S1 S' h2]
  split at h1
  ·cases h1;rfl
  ·split at h1
   ·obtain⟨s,_,rfl⟩:=Option.map_eq_some_iff.mp h1
    simp
   ·cases h1
theorem hf_l2_len (o:Int) (pw:List (List Int)) (x:Int) (i:Nat):∀(r:List Int) (k:Nat) (S S':List (Int×Nat)),hf_l2 o pw x i r k S=some S'→S'.length=S.length
 |[],k,S,S',h=>by cases h;rfl
 |y::r,k,S,S',h=>by
  obtain⟨S1,h1,h2⟩:=qOb h;rw [hf_l2_len o pw x i r (k+1) S1 S' h2]
  split at h1
  ·cases h1;rfl
  ·split at h1
   ·cases h1
   ·split at h1
    ·exact hf_l3_len _ _ _ _ _ _ h1
    ·cases h1
theorem hf_l1_len (o:Int) (pw:List (List Int)) (b:List Int):∀(r:List Int) (i:Nat) (S S':List (Int×Nat)),hf_l1 o pw b r i S=some S'→S'.length=S.length
 |[],i,S,S',h=>by cases h;rfl
 |x::r,i,S,S',h=>by
  obtain⟨S1,h1,h2⟩:=qOb h;rw [hf_l1_len o pw b r (i+1) S1 S' h2,hf_l2_len o pw x i b 0 S S1 h1]
theorem hf_put' {W:World} {base g:Nat} {S:List (Int×Nat)} (h:hf_row W base g S) (i:Nat) (s:Int×Nat):
  hf_row ((W.setCell ⟨g,i*2,none⟩ (.int .i64 s.1)).setCell ⟨g,i*2+1,none⟩ (.float .f64 s.2)) base g (S.set i s):=by
 rw [Nat.mul_comm i 2];exact hf_put h i s
theorem hf_cells' {W:World} {base g:Nat} {S:List (Int×Nat)} (h:hf_row W base g S) (i:Nat) (hi:i<S.length):
  (W.cell? ⟨g,i*2,none⟩=some (.int .i64 (S.getD i (0,0)).1)∧W.cell? ⟨g,i*2+1,none⟩=some (.float .f64 (S.getD i (0,0)).2))∧W.frozen? ⟨g,i*2,none⟩=false∧W.frozen? ⟨g,i*2+1,none⟩=false:=by
 rw [Nat.mul_comm i 2];exact hf_cells h i hi

set_option maxHeartbeats 1000000 in
set_option maxRecDepth 100000 in
theorem hf_product (g cap gf ca cb cp L:Nat) (o:Int) (pw:List (List Int)) (a b:List Int) (Aa Ab Ap:Option Addr) (S S':List (Int×Nat)) (u w:World) (hL:L=S.length) (hB:Below u.heap.size u w) (h:hf_row w u.heap.size g S)
  (hc0:u.cell? ⟨gf,0,none⟩=some (.int .i64 o)) (hc2:u.cell? ⟨gf,2,none⟩=some (.slice Ap pw.length cp)) (hP:Kd.C (Kd.slice 2 (Kd.int .i64)) u Ap pw.length pw) (hA:Kd.C (Kd.int .i64) u Aa a.length a) (hBb:Kd.C (Kd.int .i64) u Ab b.length b)
  (hs:hf_l1 o pw b a 0 S=some S'):
  Calls Try.prog 66 #[.pointer (some ⟨gf,0,none⟩),.slice (some ⟨g,0,none⟩) L cap,.slice Aa a.length ca,.slice Ab b.length cb] w fun e w'=>e=.returned (.tuple #[])∧hf_row w' u.heap.size g S'∧Below u.heap.size u w':=by
 have HB:=qAm hB;have HR:=qAm h;have HP:=qAm hP;have HAa:=qAm hA;have HBb:=qAm hBb;have HX:=qAm hs;have HC0:=qAm hc0;have HC2:=qAm hc2;have hla:a.length≤9223372036854775807:=hA.2.1;have hlb:b.length≤9223372036854775807:=hBb.2.1;have hlp:pw.length≤9223372036854775807:=hP.2.1;have HL:=qAm hL.symm;clear hB h hP hA hBb hs hc0 hc2 hL;go_enter Try.func66,Try.ntmps66;go_wp2;go_loopg [16] (a.length+1) (fun kq v16 w'=>∃(i:Nat) (S1:List (Int×Nat)),v16=.int .i64 i∧Aside0 (kq+i=a.length+1∧i≤a.length∧S1.length=L)∧Aside0 (hf_l1 o pw b (a.drop i) i S1=some S')∧Aside0 (hf_row w' u.heap.size g S1)∧Aside0 (Below u.heap.size u w'))
 case atStart=>exact⟨0,S,rfl,⟨by omega,by omega,HL.1⟩,⟨by simpa using HX.1⟩,HR,HB⟩
 case round=>
  clear HB HR HX HL;obtain⟨i,S1,rfl,HA,HX,HR,HB⟩:=hrel;obtain⟨g1,rfl⟩:∃g1,gk=g1+1:=⟨gk - 1,by have:=HA.1;omega⟩
  by_cases hlt:i<a.length
  ·obtain⟨ad,hA,hx⟩:=Kd.at_int HAa.1 (i:Int) (by omega) (by omega);cases hA
   have hx':wr.cell? (ad.add i)=some (.int .i64 (rd a i)):=pw_cell_below HB.1 (by simpa using hx);clear hx;have hX:=HX.1;rw [List.drop_eq_getElem_cons hlt] at hX;have er:a[i]=rd a i:=by simp [rd,hlt]
   rw [er] at hX;obtain⟨S2,hX1,hX2⟩:=qOb hX;have HX1:=qAm hX1;have HX2:=qAm hX2;have HA1:=qAm (show g1+(i+1)=a.length+1∧i+1≤a.length∧S2.length=L by have:=HA.1;rw [hf_l2_len _ _ _ _ _ _ _ _ hX1];omega);clear hX hX1 hX2 HX er;go_wp2;go_loopg [23] (b.length+1) (fun kq v23 w'=>∃(k:Nat) (S3:List (Int×Nat)),v23=.int .i64 k∧Aside0 (kq+k=b.length+1∧k≤b.length∧S3.length=L)∧Aside0 (hf_l2 o pw (rd a i) i (b.drop k) k S3=some S2)∧Aside0 (hf_row w' u.heap.size g S3)∧Aside0 (Below u.heap.size u w'))
   case atStart=>exact⟨0,S1,rfl,⟨by omega,by omega,HA.1.2.2⟩,⟨by simpa using HX1.1⟩,HR,HB⟩
   case round=>
    clear HB HR HX1 HA hx';obtain⟨k,S3,rfl,HA,HX,HR,HB⟩:=hrel;obtain⟨g2,rfl⟩:∃g2,gk=g2+1:=⟨gk - 1,by have:=HA.1;omega⟩
    by_cases hlt2:k<b.length
    ·obtain⟨ad2,hA2,hy⟩:=Kd.at_int HBb.1 (k:Int) (by omega) (by omega);cases hA2
     have hy':wr.cell? (ad2.add k)=some (.int .i64 (rd b k)):=pw_cell_below HB.1 (by simpa using hy);clear hy;have hX:=HX.1;rw [List.drop_eq_getElem_cons hlt2] at hX;have er:b[k]=rd b k:=by simp [rd,hlt2]
     rw [er] at hX;obtain⟨S4,hX1,hX2⟩:=qOb hX;have HX2':=qAm hX2;clear hX hX2 HX er
     by_cases hx0:rd a i=0
     ·rw [if_pos (.inl hx0)] at hX1;obtain rfl:=Option.some.inj hX1;have hb0:decide (rd a i=0)=true:=decide_eq_true hx0;clear hX1;go_wp2;go_roundg g2
      case measure=>omega
      case rel=>exact⟨k+1,S3,by go_num,⟨by have:=HA.1;omega,by omega,HA.1.2.2⟩,HX2',HR,HB⟩
     ·by_cases hy0:rd b k=0
      ·rw [if_pos (.inr hy0)] at hX1;obtain rfl:=Option.some.inj hX1;have hb0:decide (rd a i=0)=false:=decide_eq_false hx0;have hb1:decide (rd b k=0)=true:=decide_eq_true hy0;clear hX1;go_wp2;go_roundg g2
       case measure=>omega
       case rel=>exact⟨k+1,S3,by go_num,⟨by have:=HA.1;omega,by omega,HA.1.2.2⟩,HX2',HR,HB⟩
      ·rw [if_neg (fun h=>h.elim hx0 hy0)] at hX1;have hb0:decide (rd a i=0)=false:=decide_eq_false hx0;have hb1:decide (rd b k=0)=false:=decide_eq_false hy0;have hc0:(rd a i==0)=false:=by simpa using hx0
       have hc1:(rd b k==0)=false:=by simpa using hy0
       split at hX1
       ·cases hX1
       rename_i ho
       obtain⟨q,hq⟩:∃q,IntKind.i64.wrap ((i:Int)+(k:Int))=q:=⟨_,rfl⟩
       rw [← i64_w,hq] at hX1
       split at hX1
       ·rename_i hqb
        obtain⟨hq0,hq1⟩:=hqb;have HX1:=qAm hX1;have HA2:=qAm (show g2+(k+1)=b.length+1∧k+1≤b.length∧S4.length=L by have:=HA.1;rw [hf_l3_len _ _ _ _ _ _ hX1];omega);clear hX1;obtain⟨ad3,A3,c3,hA3,hr,_,hrow⟩:=at_L1 HP.1 (Int.tmod q o) hq0 hq1;cases hA3
        have HRow:=qAm hrow;have f0:wr.drew.cell? ⟨gf,0,none⟩=some (.int .i64 o):=pw_cell_below HB.1 HC0.1;have f2:wr.drew.cell? ⟨gf,2,none⟩=some (.slice (some ad3) pw.length cp):=pw_cell_below HB.1 HC2.1;have fr:wr.drew.cell? (ad3.add (Int.toNat (Int.tmod q o)))=some (.slice A3 (rd_L1 pw (Int.tmod q o)).length c3):=pw_cell_below HB.1 hr;have hlr:(rd_L1 pw (Int.tmod q o)).length≤9223372036854775807:=hrow.2.1;clear hr hrow;generalize rd_L1 pw (Int.tmod q o)=row at *;go_wp2;go_region;go_wp2;go_loopg [49] (row.length+1) (fun kq v49 w'=>∃(m:Nat) (S5:List (Int×Nat)),v49=.int .i64 m∧Aside0 (kq+m=row.length+1∧m≤row.length∧S5.length=L)∧Aside0 (hf_l3 (rd a i) (rd b k) (row.drop m) m S5=some S4)∧Aside0 (hf_row w' u.heap.size g S5)∧Aside0 (Below u.heap.size u w'))
        case atStart=>exact⟨0,S3,rfl,⟨by omega,by omega,HA.1.2.2⟩,⟨by simpa using HX1.1⟩,⟨HR.1⟩,⟨below_drew1 HB.1⟩⟩
        case round=>
         clear HB HR HX1 HA hy' f0 f2 fr hc0 hc1;obtain⟨m,S5,rfl,HA,HX,HR,HB⟩:=hrel;obtain⟨g3,rfl⟩:∃g3,gk=g3+1:=⟨gk - 1,by have:=HA.1;omega⟩
         by_cases hlt3:m<row.length
         ·obtain⟨ad4,hA4,hz⟩:=Kd.at_int HRow.1 (m:Int) (by omega) (by omega);cases hA4
          have hz':wr.cell? (ad4.add m)=some (.int .i64 (rd row m)):=pw_cell_below HB.1 (by simpa using hz);clear hz;have hX:=HX.1;rw [List.drop_eq_getElem_cons hlt3] at hX;have er:row[m]=rd row m:=by simp [rd,hlt3]
          rw [er] at hX;obtain⟨S6,hX1,hX2⟩:=qOb hX;have HX3:=qAm hX2;clear hX hX2 HX er
          by_cases hn:rd row m=0
          ·rw [if_pos hn] at hX1;obtain rfl:=Option.some.inj hX1;have hd0:(rd row m==0)=true:=by simpa using hn
           have hd1:(rd row m !=0)=false:=by simpa using hn
           have hd2:decide (rd row m=0)=true:=decide_eq_true hn;clear hX1;go_wp2;go_roundg g3
           case measure=>omega
           case rel=>exact⟨m+1,S5,by go_num,⟨by have:=HA.1;omega,by omega,HA.1.2.2⟩,HX3,HR,HB⟩
          ·rw [if_neg hn] at hX1
           split at hX1
           ·rename_i hmS
            obtain⟨s,hs,hset⟩:=Option.map_eq_some_iff.mp hX1;obtain⟨⟨x0,x1⟩,x2,x3⟩:=hf_cells' HR.1 m hmS;obtain⟨lo,ne,hse⟩:∃lo ne,S5.getD m (0,0)=(lo,ne):=⟨_,_,rfl⟩
            rw [hse] at x0 x1 hs;have HS:=qAm hs;have HE:=qAm hset;have X0:=qAm x0;have X1:=qAm x1;have hmL:m<L:=by have:=HA.1;omega
            have hd0:(rd row m==0)=false:=by simpa using hn
            have hd1:(rd row m !=0)=true:=by simpa using hn
            have hd2:decide (rd row m=0)=false:=decide_eq_false hn;clear hX1 hs hset hse x0 x1;go_wp2_with (go_at_call 86;(try simp only [i64_w]);refine(hf_add g (m*2) lo ne _ _ s _ X0.1 X1.1 x2 x3 HS.1).mono ?_;rintro e w' ⟨rfl,⟨nd,rfl⟩⟩);go_roundg g3
            case measure=>omega
            case rel=>exact⟨m+1,S5.set m s,by go_num,⟨by have:=HA.1;omega,by omega,by rw [List.length_set];exact HA.1.2.2⟩,⟨by rw [HE.1];exact HX3.1⟩,⟨hf_put' HR.1 m s⟩,⟨pw_below_drewN (below_set (below_set HB.1 HR.1.1) HR.1.1) _⟩⟩
           ·cases hX1
         ·go_wp2;go_roundg g2
          case measure=>omega
          case rel=>
           have e:m=row.length:=by have:=HA.1;omega
           subst e;have e2:S5=S4:=by have:=HX.1;rw [List.drop_length] at this;exact Option.some.inj this
           subst e2;exact⟨k+1,S5,by go_num,HA2,HX2',HR,HB⟩
       ·cases hX1
    ·go_wp2;go_roundg g1
     case measure=>omega
     case rel=>
      have e:k=b.length:=by have:=HA.1;omega
      subst e;have e2:S3=S2:=by have:=HX.1;rw [List.drop_length] at this;exact Option.some.inj this
      subst e2;exact⟨i+1,S3,by go_num,HA1,HX2,HR,HB⟩
  ·go_wp2
   first|go_end0|go_ret
   have e:i=a.length:=by have:=HA.1;omega
   subst e;have e2:S1=S':=by have:=HX.1;rw [List.drop_length] at this;exact Option.some.inj this
   subst e2;exact⟨rfl,HR.1,HB.1⟩

theorem hf_sinfo:(Try.prog.info? 94).map (fun i=>(i.zero,i.size,i.bytes))=some (some (.agg #[.int .i64 0,.float .f64 0]),2,16):=by kernel_rfl
theorem hf_lt {W:World} {base g:Nat} {S:List (Int×Nat)} (h:hf_row W base g S):g<W.heap.size:=by
 obtain⟨_,c,hh,_,_⟩:=h
 rcases Nat.lt_or_ge g W.heap.size with x|x
 ·exact x
 ·rw [Array.getElem?_eq_none x] at hh;cases hh
set_option maxHeartbeats 1000000 in
set_option maxRecDepth 100000 in
theorem hf_times (g c1 c2 cp n:Nat) (o:Int) (pw:List (List Int)) (l1 l2:List Int) (A1 A2 Ap:Option Addr) (S':List (Int×Nat)) (w:World) (hn:n≤1000000)
  (hc0:w.cell? ⟨g,0,none⟩=some (.int .i64 o)) (hc1:w.cell? ⟨g,1,none⟩=some (.int .i64 n)) (hc2:w.cell? ⟨g,2,none⟩=some (.slice Ap pw.length cp)) (hP:Kd.C (Kd.slice 2 (Kd.int .i64)) w Ap pw.length pw) (hr1:Kd.C (Kd.int .i64) w A1 l1.length l1) (hr2:Kd.C (Kd.int .i64) w A2 l2.length l2)
  (hs:hf_l1 o pw l2 l1 0 (List.replicate n (0,0))=some S'):
  Calls Try.prog 41 #[.pointer (some ⟨g,0,none⟩),.slice A1 l1.length c1,.slice A2 l2.length c2] w fun e w'=>∃v,e=.returned (.tuple #[v,.bool (S'.all fun s=>hf_ok s.1 s.2)])∧Kd.R (Kd.int .i64) 2 w' w.heap.size (fun _=>True) v (S'.map (·.1))∧Below w.heap.size w w':=by
 have HP:=qAm hP;have H1:=qAm hr1;have H2:=qAm hr2;have HC0:=qAm hc0;have HC2:=qAm hc2;have HS:=qAm hs;have HL:=qAm (show n=S'.length by rw [hf_l1_len _ _ _ _ _ _ _ hs,List.length_replicate]);have HN:=qAm hn;clear hP hr1 hr2 hc0 hc2 hs;go_enter Try.func41,Try.ntmps41;go_wp2_with (first|((with_reducible refine gate_dst (N:=13) rfl ?_);refine Kd.R_make hf_K _ 94 rfl (N:=13) rfl 76 _ _ rfl (n:Int) rfl rfl Try.underlying76 (.agg #[.int .i64 0,.float .f64 0]) 16 hf_sinfo rfl (by decide) (by omega) (0,0) (ok:=fun _=>True) (okp:=fun _=>True) ⟨[.int .i64 0],[.float .f64 0],rfl,rfl,rfl⟩ (fun _ hk=>hk) trivial (by omega) (by have:=HN.1;omega) (Below.refl w.heap.size w) (Nat.le_refl _) ?_;intro v1 w1 ho hb hg_ hnew_;rw [Int.toNat_natCast] at ho;obtain⟨g1,cap,rfl,HW⟩:=hf_made ho hnew_;have HB1:=qAm hb;have HW1:=qAm HW;clear ho hb hg_ hnew_ HW)|(go_at_call 66;refine(hf_product g1 cap g c1 c2 cp n o pw l1 l2 A1 A2 Ap (List.replicate n (0,0)) S' w w1 (by rw [List.length_replicate]) HB1.1 HW1.1 HC0.1 HC2.1 HP.1 H1.1 H2.1 HS.1).mono ?_;rintro e w2 ⟨rfl,hw2,hb2⟩;have HW2:=qAm hw2;have HB2:=qAm hb2;clear hw2 hb2 HW1 HB1)|(go_at_call 67;refine(hf_values g1 cap w.heap.size n S' w2 HL.1 HW2.1 (by have:=HL.1;have:=HN.1;omega) (hf_lt HW2.1)).mono ?_;rintro e w3 ⟨v3,rfl,hv3,hb3⟩;have HV3:=qAm hv3;have HB3:=qAm hb3;clear hv3 hb3))
 first|go_ret2|go_ret
 exact⟨v3,rfl,Kd.R_lower HV3.1 HB2.1.size,below_step HB2.1 HB3.1⟩
theorem himg_times {g c1 c2 n:Nat} {o:Int} {pw:List (List Int)} {l1 l2:List Int} {A1 A2:Option Addr} {S':List (Int×Nat)} {w0 w:World} {ok:Bool} (hI:IsS52 w0 w g o n pw) (hn:n≤1000000) (hr1:Kd.C (Kd.int .i64) w A1 l1.length l1) (hr2:Kd.C (Kd.int .i64) w A2 l2.length l2)
  (hs:hf_l1 o pw l2 l1 0 (List.replicate n (0,0))=some S') (hok:(S'.all fun s=>hf_ok s.1 s.2)=ok) (hB:Below w0.heap.size w0 w):
  Calls Try.prog 41 #[.pointer (some ⟨g,0,none⟩),.slice A1 l1.length c1,.slice A2 l2.length c2] w fun e w'=>∃v,e=.returned (.tuple #[v,.bool ok])∧Kd.R (Kd.int .i64) 2 w' w.heap.size (fun _=>True) v (S'.map (·.1))∧Below w.heap.size w w':=by
 subst hok;obtain⟨Ap,cp,HG,hg0,HSl⟩:=hI;exact hf_times g c1 c2 cp n o pw l1 l2 A1 A2 Ap S' w hn (cellS52_0 HG) (cellS52_1 HG) (cellS52_2 HG) (Kd.C_below HSl hB) hr1 hr2 hs
def impl_field_times.f (s0_0:Int) (s0_1:Int) (s0_2:List (List Int)) (l1:List Int) (l2:List Int):Option (List Int×Bool×Int×Int):=(if 0≤s0_1∧s0_1≤1000000 then hf_l1 s0_0 s0_2 l2 l1 0 (List.replicate s0_1.toNat (0,0)) else none).map fun S=>(S.map (·.1),S.all fun s=>hf_ok s.1 s.2,s0_0,s0_1)
set_option maxHeartbeats 8000000 in
set_option maxRecDepth 100000 in
theorem impl_field_times.calls (g:Nat) (s0_0:Int) (s0_1:Int) (s0_2:List (List Int)) (A1:Option Addr) (c1:Nat) (l1:List Int) (A2:Option Addr) (c2:Nat) (l2:List Int) (r1:List Int) (r2:Bool) (r3:Int) (r4:Int) (w0 w:World) (hI:IsS52 w0 w g s0_0 s0_1 s0_2) (hB:Below w0.heap.size w0 w) (hr1:Kd.C (Kd.int .i64) w A1 l1.length l1) (hc1:l1.length≤c1) (hf1:∀ad,A1=some ad→0<l1.length→ad.block≠g) (hr2:Kd.C (Kd.int .i64) w A2 l2.length l2) (hc2:l2.length≤c2) (hf2:∀ad,A2=some ad→0<l2.length→ad.block≠g) (h:impl_field_times.f s0_0 s0_1 s0_2 l1 l2=some (r1,r2,r3,r4)):
  Calls Try.prog 41 #[.pointer (some ⟨g,0,none⟩),.slice A1 l1.length c1,.slice A2 l2.length c2] w fun e w'=>∃v0_:Value,e=.returned (.tuple #[v0_,.bool r2])∧Kd.R (Kd.int .i64) 2 w' w.heap.size (fun _=>True) v0_ r1∧IsS52 w0 w' g r3 r4 s0_2∧Below w0.heap.size w0 w'∧KeepBut w w' g none:=by
 obtain⟨Ap,cp,HG,hg0,HSl⟩:=hI;have hcell0:=cellS52_0 HG;have hcell1:=cellS52_1 HG;have hcell2:=cellS52_2 HG;unfold impl_field_times.f at h;obtain⟨S',hS',he⟩:=Option.map_eq_some_iff.mp h
 by_cases hm:0≤s0_1∧s0_1≤1000000
 ·rw [if_pos hm] at hS';simp only [Prod.mk.injEq] at he;obtain⟨rfl,rfl,rfl,rfl⟩:=he;obtain⟨n,rfl⟩:∃n:Nat,s0_1=n:=⟨s0_1.toNat,by omega⟩
  rw [Int.toNat_natCast] at hS';refine(hf_times g c1 c2 cp n s0_0 s0_2 l1 l2 A1 A2 Ap S' w (by omega) hcell0 hcell1 hcell2 (Kd.C_below HSl hB) hr1 hr2 hS').mono ?_;rintro e w' ⟨v,rfl,hv,hb⟩;exact⟨v,rfl,hv,IsS52.below ⟨Ap,cp,HG,hg0,HSl⟩ hb,below_step hB hb,KeepBut.of_below hb g none⟩
 ·rw [if_neg hm] at hS';cases hS'

end Go.Proofs.Ythljmbobccaalaa.PFnExactSizeOf
