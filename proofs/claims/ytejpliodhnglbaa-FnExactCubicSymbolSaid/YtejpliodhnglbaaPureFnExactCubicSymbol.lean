/- The program's CubicSymbol returns what the reference's returns, for all arguments; no condition. -/
import Derived.Test.YtejpliodhnglbaaPFnExactCubicSymbolx15
import Derived.OpenShut
namespace Go.Proofs.Ytejpliodhnglbaa.Pure
open Go.RowKit Go.Proofs.Ytejpliodhnglbaa.PFnExactCubicSymbol Go.Proofs.YtejpliodhnglbaaW.PrintWords Go.Proofs.YtejpliodhnglbaaW.PrintLast Go.Proofs.YtejpliodhnglbaaW.PrintMore
set_option linter.unusedVariables false
set_option linter.unusedSimpArgs false
theorem w64 {x:Int} (h0:-9223372036854775808≤x) (h1:x≤9223372036854775807):wrap64 x=x:=by unfold wrap64;omega
theorem ev_bind_const {α β:Type} {o:Option α} {a:α} {f:Nat→α→Option β} {r:β} (h:o=some a) (k:Ev (fun n=>f n a) r):Ev (fun n=>o.bind (f n)) r:=by
 subst h;exact k
theorem toInts_l0 (l:List Int) (hl:l.length≤1048576):∀(d:Nat) (ys:List Int) (i:Nat),d+i=l.length→ys.length=l.length→ys.take i=l.take i→Ev (fun k=>laws_toInt64S.l0 k l ys (i:Int)) l:=by
 intro d
 induction d with
 |zero=>
  intro ys i hd hy ht;have:i=l.length:=by omega
  subst this;refine Ev.step (f:=fun _=>some l) (fun k=>?_) (Ev.now _);simp only [laws_toInt64S.l0];rw [if_neg (by omega)];rw [List.take_of_length_le (by omega),List.take_of_length_le (by omega)] at ht;rw [ht]
 |succ d ih=>
  intro ys i hd hy ht;refine Ev.step (f:=fun k=>laws_toInt64S.l0 k l (ys.set i (rd l (i:Int))) ((i+1:Nat):Int)) (fun k=>?_) (ih _ _ (by omega) (by simp [hy]) ?_)
  ·simp only [laws_toInt64S.l0];rw [if_pos (by omega),if_pos (by omega),if_pos (by omega),w64 (by omega) (by omega)];rfl
  ·have hi:i<l.length:=by omega
   rw [List.take_succ_eq_append_getElem (by simpa [hy] using hi),List.take_succ_eq_append_getElem hi,List.take_set_of_le (Nat.le_refl _),ht]
   simp [rd,hi]
theorem toInts (l:List Int) (hl:l.length≤1048576):Ev (fun k=>laws_toInt64S.f k l) l:=by
 have h:=toInts_l0 l hl l.length (List.replicate l.length 0) 0 (by omega) (by simp) (by simp);refine Ev.congr (fun k=>?_) h;unfold laws_toInt64S.f;rw [if_pos (by omega),if_pos (by omega)]
 simp
theorem toCyclo (n:Int) (l:List Int) (hl:l.length≤1048576):Ev (fun k=>laws_toCyclo.f k n l) (n,l):=
 Ev.bind (toInts l hl) (Ev.now _)
theorem eqInts_l0 (l m:List Int) (hl:l.length≤1048576) (hm:m.length=l.length):∀(d i:Nat),d+i=l.length→Ev (fun k=>laws_eqInt64S.l0 k l m (i:Int)) (decide (l.drop i=m.drop i)):=by
 intro d
 induction d with
 |zero=>
  intro i hd;refine Ev.step (f:=fun _=>some (decide (l.drop i=m.drop i))) (fun k=>?_) (Ev.now _);simp only [laws_eqInt64S.l0];rw [if_neg (by omega),List.drop_of_length_le (by omega),List.drop_of_length_le (by omega)]
  simp
 |succ d ih=>
  intro i hd;have hi:i<l.length:=by omega
  have hi2:i<m.length:=by omega
  have e1:rd l (i:Int)=l[i]:=by simp [rd,hi]
  have e2:rd m (i:Int)=m[i]:=by simp [rd,hi2]
  by_cases he:l[i]=m[i]
  ·refine Ev.step (f:=fun k=>laws_eqInt64S.l0 k l m ((i+1:Nat):Int)) (fun k=>?_) ?_
   ·simp only [laws_eqInt64S.l0];rw [if_pos (by omega),if_pos (by omega),if_pos (by omega),e1,e2,if_pos he,w64 (by omega) (by omega)];rfl
   ·have e:decide (l.drop i=m.drop i)=decide (l.drop (i+1)=m.drop (i+1)):=by
     rw [List.drop_eq_getElem_cons hi,List.drop_eq_getElem_cons hi2];simp only [List.cons.injEq,he,true_and]
    rw [e];exact ih (i+1) (by omega)
  ·refine Ev.step (f:=fun _=>some false) (fun k=>?_) ?_
   ·simp only [laws_eqInt64S.l0];rw [if_pos (by omega),if_pos (by omega),if_pos (by omega),e1,e2,if_neg he]
   ·have e:decide (l.drop i=m.drop i)=false:=by
     rw [List.drop_eq_getElem_cons hi,List.drop_eq_getElem_cons hi2];simp only [List.cons.injEq,he,false_and,decide_false]
    rw [e];exact Ev.now _
theorem eqInts (l m:List Int) (hl:l.length≤1048576):Ev (fun k=>laws_eqInt64S.f k l m) (decide (l=m)):=by
 by_cases h:m.length=l.length
 ·have:=eqInts_l0 l m hl h l.length 0 (by omega);refine Ev.congr (fun k=>?_) (by simpa using this);unfold laws_eqInt64S.f;rw [if_pos (by omega)]
 ·have hne:l≠m:=fun e=>h (by rw [e])
  rw [decide_eq_false hne];refine Ev.congr (fun k=>?_) (Ev.now _);unfold laws_eqInt64S.f;rw [if_neg (by omega)]
theorem eqCyclo (n n':Int) (l l':List Int) (hl:l.length≤1048576):Ev (fun k=>laws_eqCyclo.f k n l n' l') (decide (n=n'∧l=l')):=by
 unfold laws_eqCyclo.f
 by_cases h:n=n'
 ·simp only [if_pos h];refine Ev.bind (eqInts l l' hl) ?_
  by_cases h2:l=l' <;> simp [h,h2] <;> exact Ev.now _
 ·simp only [if_neg h]
  simp [h]
  exact Ev.now _
def phi (n:Int):Int:=[0,1,1,2,2,4,2,6,4,6,4,10,4,12,6,8,8].getD n.toNat 0
theorem orders {P:Int→Prop} (h:∀m:Nat,m<17→1≤m→P m) (n:Int) (h0:1≤n) (h1:n≤16):P n:=by
 have:=h n.toNat (by omega) (by omega)
 rwa [Int.toNat_of_nonneg (by omega)] at this
theorem phi_spec (n:Int) (h0:1≤n) (h1:n≤16):Ev (fun k=>spec_l01Phi.f k n) (phi n):=by
 have key:∀m:Nat,m<17→1≤m→spec_l01Phi.f 60 (m:Int)=some (phi m):=by decide +kernel
 exact Ev.of (spec_l01Phi.mono n) (orders (P:=fun n=>spec_l01Phi.f 60 n=some (phi n)) key n h0 h1)
theorem phi_impl (n:Int) (h0:1≤n) (h1:n≤16):Ev (fun k=>impl_totient.f k n) (phi n):=by
 have key:∀m:Nat,m<17→1≤m→impl_totient.f 60 (m:Int)=some (phi m):=by decide +kernel
 exact Ev.of (impl_totient.mono n) (orders (P:=fun n=>impl_totient.f 60 n=some (phi n)) key n h0 h1)
theorem l01In (a b c:Int):spec_l01In.f a b c=some (decide (b≤a) && decide (a≤c)):=by
 unfold spec_l01In.f
 by_cases h:a≥b
 ·rw [if_pos h];simp [h]
 ·rw [if_neg h];simp [h]
theorem within_ (a b c:Int):impl_within.f a b c=some (decide (b≤a) && decide (a≤c)):=by
 unfold impl_within.f
 by_cases h:b≤a
 ·rw [if_pos h];simp [h]
 ·rw [if_neg h];simp [h]
def inP (m:Int) (x:Int):Bool:=decide (-m≤x) && decide (x≤m)
theorem fits_l0 (n:Int) (l:List Int) (hl:l.length≤1048576):∀(d i:Nat),d+i=l.length→Ev (fun k=>spec_l01Fits.l0 k (i:Int) n l) ((l.drop i).all (inP 1000000000)):=by
 intro d
 induction d with
 |zero=>
  intro i hd;refine Ev.step (f:=fun _=>some ((l.drop i).all (inP 1000000000))) (fun k=>?_) (Ev.now _);simp only [spec_l01Fits.l0];rw [if_neg (by omega),List.drop_of_length_le (by omega)];rfl
 |succ d ih=>
  intro i hd;have hi:i<l.length:=by omega
  have e1:rd l (i:Int)=l[i]:=by simp [rd,hi]
  rw [List.drop_eq_getElem_cons hi,List.all_cons];cases hp:inP 1000000000 l[i] with
  |true=>
   refine Ev.step (f:=fun k=>spec_l01Fits.l0 k ((i+1:Nat):Int) n l) (fun k=>?_) (by simpa using ih (i+1) (by omega));simp only [spec_l01Fits.l0];rw [if_pos (by omega),if_pos (by omega),e1,l01In,Option.bind_some,if_pos (by simpa [inP] using hp),w64 (by omega) (by omega)];rfl
  |false=>
   refine Ev.step (f:=fun _=>some false) (fun k=>?_) (by simpa using Ev.now _);simp only [spec_l01Fits.l0];rw [if_pos (by omega),if_pos (by omega),e1,l01In,Option.bind_some,if_neg (by simp [inP] at hp ⊢;omega)]
theorem fits01 (n:Int) (l:List Int) (hl:l.length≤1048576):Ev (fun k=>spec_l01Fits.f k n l) (l.all (inP 1000000000)):=by
 have:=fits_l0 n l hl l.length 0 (by omega);unfold spec_l01Fits.f
 simpa using this
theorem areSmall (l:List Int) (m:Int) (h0:0≤m) (h1:m≤9223372036854775807):impl_areSmall.f l m=some (l.all (inP m)):=by
 unfold impl_areSmall.f;rw [w64 (by omega) (by omega)];rfl
def isC (n:Int) (l:List Int):Bool:=decide (1≤n) && decide (n≤16) && decide ((l.length:Int)=phi n) && l.all (inP 1000000000)
theorem l01Is (n:Int) (l:List Int) (hl:l.length≤1048576):Ev (fun k=>spec_l01Is.f k n l) (isC n l):=by
 unfold spec_l01Is.f;refine ev_bind_const (l01In _ _ _) ?_
 by_cases h:1≤n∧n≤16
 ·rw [show(decide (1≤n) && decide (n≤16))=true by simp [h]];simp only [if_true];refine Ev.bind (phi_spec n h.1 h.2) ?_
  by_cases h2:(l.length:Int)=phi n
  ·simp only [if_pos h2];refine Ev.bind (fits01 n l hl) ?_;have:isC n l=l.all (inP 1000000000):=by simp [isC,h,h2]
   rw [this];exact Ev.now _
  ·simp only [if_neg h2];have:isC n l=false:=by simp [isC,h,h2]
   rw [this];exact Ev.now _
 ·have e:(decide (1≤n) && decide (n≤16))=false:=by simp;omega
  rw [e];have:isC n l=false:=by simp [isC,e]
  rw [this];exact Ev.now _
theorem isCyclo (n:Int) (l:List Int):Ev (fun k=>impl_IsCyclo.f k n l) (isC n l):=by
 unfold impl_IsCyclo.f impl_isOrder.f;refine ev_bind_const (a:=decide (1≤n) && decide (n≤16)) (by rw [within_];rfl) ?_
 by_cases h:1≤n∧n≤16
 ·rw [show(decide (1≤n) && decide (n≤16))=true by simp [h]];simp only [if_true];refine Ev.bind (phi_impl n h.1 h.2) ?_
  by_cases h2:(l.length:Int)=phi n
  ·simp only [if_pos h2];have:isC n l=l.all (inP 1000000000):=by simp [isC,h,h2]
   rw [this,areSmall _ _ (by omega) (by omega)];exact Ev.now _
  ·simp only [if_neg h2];have:isC n l=false:=by simp [isC,h,h2]
   rw [this];exact Ev.now _
 ·have e:(decide (1≤n) && decide (n≤16))=false:=by simp;omega
  rw [e];have:isC n l=false:=by simp [isC,e]
  rw [this];exact Ev.now _
def is9 (n:Int) (l:List Int):Bool:=decide (n=3) && isC n l && l.all (inP 10000)
theorem inP_iff {m x:Int}:inP m x=true↔-m≤x∧x≤m:=by simp [inP]
theorem isC3 {l:List Int} (h:isC 3 l=true):∃a b,l=[a,b]:=by
 simp only [isC,Bool.and_eq_true,decide_eq_true_eq] at h;have h2:l.length=2:=by
  have h3:((l.length:Nat):Int)=phi 3:=h.1.2;have h4:phi 3=2:=by decide
  omega
 match l,h2 with
 |[a,b],_=>exact⟨a,b,rfl⟩
theorem is9_form {n:Int} {l:List Int} (h:is9 n l=true):n=3∧∃a b,l=[a,b]∧-10000≤a∧a≤10000∧-10000≤b∧b≤10000:=by
 simp only [is9,Bool.and_eq_true,decide_eq_true_eq] at h;obtain⟨⟨rfl,h2⟩,h3⟩:=h;obtain⟨a,b,rfl⟩:=isC3 h2;simp only [List.all_cons,List.all_nil,Bool.and_true,Bool.and_eq_true,inP_iff] at h3;exact⟨rfl,a,b,rfl,h3.1.1,h3.1.2,h3.2.1,h3.2.2⟩
theorem l09Fits (n a b:Int):spec_l09Fits.f n [a,b]=some (inP 10000 a && inP 10000 b):=by
 unfold spec_l09Fits.f;rw [if_pos (by simp),l01In,Option.bind_some]
 by_cases h:inP 10000 a=true
 ·rw [if_pos (by simpa [inP,rd] using h),if_pos (by simp),l01In,h,Bool.true_and];rfl
 ·have h':inP 10000 a=false:=by simpa using h
  rw [if_neg (by simpa [inP,rd] using h),h'];rfl
theorem l09Is (n:Int) (l:List Int) (hl:l.length≤1048576):Ev (fun k=>spec_l09Is.f k n l) (is9 n l):=by
 unfold spec_l09Is.f
 by_cases h:n=3
 ·subst h;simp only [if_true];refine Ev.bind (l01Is 3 l hl) ?_;cases hc:isC 3 l with
  |true=>
   obtain⟨a,b,rfl⟩:=isC3 hc;simp only [if_true,l09Fits,Option.bind_some];simp only [is9,hc,decide_true,Bool.and_true,Bool.true_and,List.all_cons,List.all_nil];exact Ev.now _
  |false=>
   simp only [is9,hc];exact Ev.now _
 ·simp only [if_neg h,is9,decide_eq_false h];exact Ev.now _
theorem isCubic (n:Int) (l:List Int):Ev (fun k=>impl_IsCubicNumber.f k n l) (is9 n l):=by
 unfold impl_IsCubicNumber.f;refine Ev.bind (isCyclo n l) ?_
 by_cases h:n=3
 ·subst h;cases hc:isC 3 l with
  |true=>
   simp only [if_true,areSmall l 10000 (by omega) (by omega),Option.bind_some,is9,hc,decide_true,Bool.true_and];exact Ev.now _
  |false=>
   simp only [is9,hc];exact Ev.now _
 ·have e:is9 n l=false:=by simp [is9,h]
  rw [e];cases hc:isC n l with
  |true=>simp only [if_true,if_neg h];exact Ev.now _
  |false=>exact Ev.now _
def is9s (x:S26):Bool:=is9 x.f0 x.f1
theorem l09Code_l0 (xs:List S26) (hx:∀x∈xs,x.f1.length≤1048576) (hl:xs.length≤1000):∀(d i:Nat),d+i=xs.length→Ev (fun k=>spec_l09Code.l0 k xs (i:Int)) (if (xs.drop i).all is9s then 0 else 1):=by
 intro d
 induction d with
 |zero=>
  intro i hd;refine Ev.step (f:=fun _=>some (if (xs.drop i).all is9s then 0 else 1)) (fun k=>?_) (Ev.now _);simp only [spec_l09Code.l0];rw [if_neg (by omega),List.drop_of_length_le (by omega)];rfl
 |succ d ih=>
  intro i hd;have hi:i<xs.length:=by omega
  have e1:rd_T26 xs (i:Int)=xs[i]:=by simp [rd_T26,hi]
  refine Ev.step (fun k=>by simp only [spec_l09Code.l0];rw [if_pos (by omega),if_pos (by omega),e1,w64 (by omega) (by omega)]) ?_;refine Ev.bind (l09Is _ _ (hx _ (List.getElem_mem hi))) ?_;rw [List.drop_eq_getElem_cons hi,List.all_cons];cases hp:is9s xs[i] with
  |true=>
   rw [show is9 xs[i].f0 xs[i].f1=true from hp]
   simpa using ih (i+1) (by omega)
  |false=>
   rw [show is9 xs[i].f0 xs[i].f1=false from hp];exact Ev.now _
theorem l09Code (xs:List S26) (hx:∀x∈xs,x.f1.length≤1048576) (hl:xs.length≤1000):Ev (fun k=>spec_l09Code.f k xs) (if xs.all is9s then 0 else 1):=by
 have:=l09Code_l0 xs hx hl xs.length 0 (by omega);unfold spec_l09Code.f
 simpa using this
def pr9 (x:S26):S54:=⟨rd x.f1 0,rd x.f1 1⟩
theorem cubicsOf_l0 (xs:List S26) (hl:xs.length≤1000):∀(d i:Nat) (acc:List S54),d+i=xs.length→acc.length≤i→Ev (fun k=>impl_cubicsOf.l0 k acc xs (xs.length:Int) (i:Int)) (if (xs.drop i).all is9s then (acc ++ (xs.drop i).map pr9,true) else ([],false)):=by
 intro d
 induction d with
 |zero=>
  intro i acc hd ha;refine Ev.step (fun k=>by simp only [impl_cubicsOf.l0];rw [if_neg (by omega)]) ?_;rw [List.drop_of_length_le (by omega)]
  simpa using Ev.now _
 |succ d ih=>
  intro i acc hd ha;have hi:i<xs.length:=by omega
  have e1:rd_T26 xs (i:Int)=xs[i]:=by simp [rd_T26,hi]
  refine Ev.step (fun k=>by simp only [impl_cubicsOf.l0];rw [if_pos (by omega),if_pos (by omega),if_pos (by omega),e1,w64 (by omega) (by omega)]) ?_;refine Ev.bind (isCubic _ _) ?_;rw [List.drop_eq_getElem_cons hi,List.all_cons,List.map_cons];cases hp:is9s xs[i] with
  |true=>
   rw [show is9 xs[i].f0 xs[i].f1=true from hp];obtain⟨_,a,b,hab,_⟩:=is9_form hp;have c0:(0:Int)<(([a,b]:List Int).length:Int):=by simp
   have c1:(1:Int)<(([a,b]:List Int).length:Int):=by simp
   have c2:acc.length<8796093022208:=by omega
   have:=ih (i+1) (acc ++ [pr9 xs[i]]) (by omega) (by simp;omega);simp only [List.append_assoc,List.singleton_append] at this;have e2:pr9 xs[i]=(⟨rd [a,b] 0,rd [a,b] 1⟩:S54):=by simp [pr9,hab]
   rw [e2] at this ⊢;simp only [if_true,hab,if_pos c0,if_pos c1,if_pos c2,Bool.true_and];exact this
  |false=>
   rw [show is9 xs[i].f0 xs[i].f1=false from hp];exact Ev.now _
theorem cubicsOf (xs:List S26) (hl:xs.length≤1000):Ev (fun k=>impl_cubicsOf.f k xs) (if xs.all is9s then (xs.map pr9,true) else ([],false)):=by
 have:=cubicsOf_l0 xs hl xs.length 0 [] (by omega) (by simp);unfold impl_cubicsOf.f
 simpa using this
theorem mul_bd {a b A B:Int} (ha:-A≤a∧a≤A) (hb:-B≤b∧b≤B):-(A*B)≤a*b∧a*b≤A*B:=by
 have h:(a*b).natAbs≤A.toNat*B.toNat:=by rw [Int.natAbs_mul];exact Nat.mul_le_mul (by omega) (by omega)
 have h2:((A.toNat*B.toNat:Nat):Int)=A*B:=by rw [Int.natCast_mul,Int.toNat_of_nonneg (by omega),Int.toNat_of_nonneg (by omega)]
 omega
theorem l09Norm (n a b:Int) (ha:-100000≤a∧a≤100000) (hb:-100000≤b∧b≤100000):spec_l09Norm.f n [a,b]=some (a*a - a*b+b*b):=by
 have h1:=mul_bd ha ha;have h2:=mul_bd ha hb;have h3:=mul_bd hb hb;unfold spec_l09Norm.f;rw [if_pos (by simp),if_pos (by simp)];simp only [rd,Int.toNat_zero,Int.toNat_one,List.getD_cons_zero,List.getD_cons_succ];rw [w64 (x:=a*a) (by omega) (by omega),w64 (x:=a*b) (by omega) (by omega),w64 (x:=b*b) (by omega) (by omega),w64 (x:=a*a - a*b) (by omega) (by omega),w64 (by omega) (by omega)]
def tm (a b:Int) (u:S54):S54:=⟨wrap64 ((wrap64 (a*u.f0)) - (wrap64 (b*u.f1))),wrap64 ((wrap64 ((wrap64 (a*u.f1))+(wrap64 (b*u.f0)))) - (wrap64 (b*u.f1)))⟩
theorem sq_nn (a:Int):0≤a*a:=by
 rw [← Int.natAbs_mul_self];exact Int.natCast_nonneg _
theorem norm0 {a b:Int}:a*a - a*b+b*b=0↔a=0∧b=0:=by
 constructor
 ·intro h;have h1:0≤(2*a - b)*(2*a - b):=sq_nn _;have h2:0≤b*b:=sq_nn _;have h3:(2*a - b)*(2*a - b)+3*(b*b)=4*(a*a - a*b+b*b):=by
   simp only [Int.sub_mul,Int.mul_sub,Int.mul_assoc,Int.mul_left_comm _ (2:Int),Int.mul_comm b a]
   omega
  have h4:b*b=0:=by omega
  have h5:b=0:=(Int.mul_eq_zero.mp h4).elim id id;subst h5;have h6:a*a=0:=by omega
  exact⟨(Int.mul_eq_zero.mp h6).elim id id,rfl⟩
 ·rintro⟨rfl,rfl⟩;rfl
theorem tmod_emod (c q:Int) (hq:0<q):(Int.tmod c q) % q=c % q:=by
 rw [Int.tmod_eq_emod]
 split <;> simp
 rw [Int.sub_emod]
 simp [Int.natAbs_of_nonneg (Int.le_of_lt hq)]
theorem around (a m:Int) (hm:0<m) (hm2:m≤1000000000000):impl_around.f a m=some (a % m):=by
 unfold impl_around.f;have h1:=Int.tmod_lt_of_pos a hm;have h2:=Int.lt_tmod_of_pos a hm;rw [if_neg (by omega),w64 (by omega) (by omega),Int.tmod_eq_emod_of_nonneg (by omega),Int.add_emod_right,tmod_emod _ _ hm]
def acc:List Int→List Int→List Int→List Int
 |many,t::ts,e::es=>acc (if e≥0 then many.set e.toNat (wrap64 (rd many e+t)) else many) ts es
 |many,_,_=>many
def nm (a b:Int):Int:=a*a - a*b+b*b
def dp (a b c d:Int):Int:=a*(c - d) - b*(-d)
def dq (a b c d:Int):Int:=a*(-d)+b*(c - d) - b*(-d)
def q1 (a b c d:Int):Int:=(2*dp a b c d+nm c d) / (2*nm c d)
def q2 (a b c d:Int):Int:=(2*dq a b c d+nm c d) / (2*nm c d)
def r1 (a b c d:Int):Int:=a - (q1 a b c d*c - q2 a b c d*d)
def r2 (a b c d:Int):Int:=b - (q1 a b c d*d+q2 a b c d*c - q2 a b c d*d)
theorem nm_four (a b:Int):(2*a - b)*(2*a - b)+3*(b*b)=4*nm a b:=by unfold nm;grind
theorem nm_four2 (a b:Int):(2*b - a)*(2*b - a)+3*(a*a)=4*nm a b:=by unfold nm;grind
theorem nm_nn (a b:Int):0≤nm a b:=by
 have h1:=sq_nn (2*a - b);have h2:=sq_nn b;have h3:=nm_four a b
 omega
theorem nm_pos {a b:Int} (h:¬(a=0∧b=0)):0<nm a b:=by
 have h1:=nm_nn a b;have h2:¬nm a b=0:=fun e=>h (norm0.mp e)
 omega
theorem sq_le9 {b:Int} (h:b*b≤400000000):-20000≤b∧b≤20000:=by
 constructor
 ·by_cases c:b≤-20001
  ·have:=Int.mul_le_mul (show(20001:Int)≤-b by omega) (show(20001:Int)≤-b by omega) (by omega) (by omega);rw [Int.neg_mul_neg] at this
   omega
  ·omega
 ·by_cases c:20001≤b
  ·have:=Int.mul_le_mul c c (by omega) (by omega)
   omega
  ·omega
theorem nm_bd {a b:Int} (h:nm a b≤300000000):(-20000≤a∧a≤20000)∧(-20000≤b∧b≤20000):=by
 have h1:=sq_nn (2*a - b);have h2:=sq_nn (2*b - a);have h3:=nm_four a b;have h4:=nm_four2 a b;exact⟨sq_le9 (by omega),sq_le9 (by omega)⟩
theorem nm_le {a b:Int} (ha:-10000≤a∧a≤10000) (hb:-10000≤b∧b≤10000):nm a b≤300000000:=by
 have h1:=mul_bd ha ha;have h2:=mul_bd ha hb;have h3:=mul_bd hb hb;unfold nm
 omega
theorem nm_le2 {a b:Int} (ha:-20000≤a∧a≤20000) (hb:-20000≤b∧b≤20000):nm a b≤1200000000:=by
 have h1:=mul_bd ha ha;have h2:=mul_bd ha hb;have h3:=mul_bd hb hb;unfold nm
 omega
theorem times9 (n m x y c d:Int) (hx:-4400000000≤x∧x≤4400000000) (hy:-4400000000≤y∧y≤4400000000) (hc:-40000≤c∧c≤40000) (hd:-40000≤d∧d≤40000):spec_l09Times.f n [x,y] m [c,d]=some (3,[x*c - y*d,x*d+y*c - y*d]):=by
 have h1:=mul_bd hx hc;have h2:=mul_bd hy hd;have h3:=mul_bd hx hd;have h4:=mul_bd hy hc;unfold spec_l09Times.f spec_l09Of.f;rw [if_pos (by simp),if_pos (by simp),if_pos (by simp),if_pos (by simp),Option.bind_some];simp only [rd,Int.toNat_zero,Int.toNat_one,List.getD_cons_zero,List.getD_cons_succ];rw [w64 (x:=x*c) (by omega) (by omega),w64 (x:=y*d) (by omega) (by omega),w64 (x:=x*d) (by omega) (by omega),w64 (x:=y*c) (by omega) (by omega),w64 (x:=x*c - y*d) (by omega) (by omega),w64 (x:=x*d+y*c) (by omega) (by omega),w64 (x:=x*d+y*c - y*d) (by omega) (by omega)]
theorem itimes9 (x y c d:Int) (hx:-4400000000≤x∧x≤4400000000) (hy:-4400000000≤y∧y≤4400000000) (hc:-40000≤c∧c≤40000) (hd:-40000≤d∧d≤40000):impl_cubic_times.f x y c d=some (x*c - y*d,x*d+y*c - y*d):=by
 have h1:=mul_bd hx hc;have h2:=mul_bd hy hd;have h3:=mul_bd hx hd;have h4:=mul_bd hy hc;unfold impl_cubic_times.f;rw [w64 (x:=x*c) (by omega) (by omega),w64 (x:=y*d) (by omega) (by omega),w64 (x:=x*d) (by omega) (by omega),w64 (x:=y*c) (by omega) (by omega),w64 (x:=x*c - y*d) (by omega) (by omega),w64 (x:=x*d+y*c) (by omega) (by omega),w64 (x:=x*d+y*c - y*d) (by omega) (by omega)]
theorem inorm9 (a b:Int) (ha:-20000≤a∧a≤20000) (hb:-20000≤b∧b≤20000):impl_cubic_norm.f a b=some (nm a b):=by
 have h1:=mul_bd ha ha;have h2:=mul_bd ha hb;have h3:=mul_bd hb hb;unfold impl_cubic_norm.f nm;rw [w64 (x:=a*a) (by omega) (by omega),w64 (x:=a*b) (by omega) (by omega),w64 (x:=b*b) (by omega) (by omega),w64 (x:=a*a - a*b) (by omega) (by omega),w64 (by omega) (by omega)]
theorem nm_rest {a b c d:Int} (h:¬(c=0∧d=0)):nm (r1 a b c d) (r2 a b c d)<nm c d:=by
 have h1:=nm_pos h;have e1:=Int.mul_ediv_add_emod (2*dp a b c d+nm c d) (2*nm c d);have e2:=Int.emod_nonneg (2*dp a b c d+nm c d) (show 2*nm c d≠0 by omega);have e3:=Int.emod_lt_of_pos (2*dp a b c d+nm c d) (show 0<2*nm c d by omega);have f1:=Int.mul_ediv_add_emod (2*dq a b c d+nm c d) (2*nm c d);have f2:=Int.emod_nonneg (2*dq a b c d+nm c d) (show 2*nm c d≠0 by omega);have f3:=Int.emod_lt_of_pos (2*dq a b c d+nm c d) (show 0<2*nm c d by omega);rw [show(2*dp a b c d+nm c d) / (2*nm c d)=q1 a b c d from rfl,Int.mul_assoc] at e1;rw [show(2*dq a b c d+nm c d) / (2*nm c d)=q2 a b c d from rfl,Int.mul_assoc] at f1;obtain⟨s,hs⟩:∃s,s=dp a b c d - nm c d*q1 a b c d:=⟨_,rfl⟩
 obtain⟨t,ht⟩:∃t,t=dq a b c d - nm c d*q2 a b c d:=⟨_,rfl⟩
 have bs:-nm c d≤2*s∧2*s≤nm c d:=by omega
 have bt:-nm c d≤2*t∧2*t≤nm c d:=by omega
 have k1:r1 a b c d*(c - d) - r2 a b c d*(-d)=s:=by rw [hs];unfold r1 r2 dp nm;grind
 have k2:r1 a b c d*(-d)+r2 a b c d*(c - d) - r2 a b c d*(-d)=t:=by rw [ht];unfold r1 r2 dq nm;grind
 have k3:nm (r1 a b c d) (r2 a b c d)*nm c d=s*s - s*t+t*t:=by rw [← k1,← k2];unfold nm;grind
 have g1:=mul_bd bs bs;have g2:=mul_bd bs bt;have g3:=mul_bd bt bt;have g4:(2*s)*(2*s) - (2*s)*(2*t)+(2*t)*(2*t)=4*(nm (r1 a b c d) (r2 a b c d)*nm c d):=by rw [k3];grind
 have g5:nm (r1 a b c d) (r2 a b c d)*nm c d<nm c d*nm c d:=by
  have:=Int.mul_pos h1 h1
  omega
 exact Int.lt_of_mul_lt_mul_right g5 (by omega)
structure Eis where
 a:Int
 b:Int
 deriving DecidableEq
namespace Eis
theorem ext' {x y:Eis} (h1:x.a=y.a) (h2:x.b=y.b):x=y:=by
 cases x;cases y;simp_all
instance:Add Eis:=⟨fun x y=>⟨x.a+y.a,x.b+y.b⟩⟩
instance:Mul Eis:=⟨fun x y=>⟨x.a*y.a - x.b*y.b,x.a*y.b+x.b*y.a - x.b*y.b⟩⟩
instance:Neg Eis:=⟨fun x=>⟨-x.a,-x.b⟩⟩
instance:Sub Eis:=⟨fun x y=>⟨x.a - y.a,x.b - y.b⟩⟩
instance:NatCast Eis:=⟨fun n=>⟨n,0⟩⟩
instance:IntCast Eis:=⟨fun n=>⟨n,0⟩⟩
instance (n:Nat):OfNat Eis n:=⟨⟨n,0⟩⟩
instance:SMul Nat Eis:=⟨fun n x=>(n:Eis)*x⟩
instance:SMul Int Eis:=⟨fun n x=>(n:Eis)*x⟩
def epw (x:Eis):Nat→Eis
 |0=>1
 |n+1=>epw x n*x
instance:HPow Eis Nat Eis:=⟨epw⟩
@[simp] theorem add_a (x y:Eis):(x+y).a=x.a+y.a:=rfl
@[simp] theorem add_b (x y:Eis):(x+y).b=x.b+y.b:=rfl
@[simp] theorem mul_a (x y:Eis):(x*y).a=x.a*y.a - x.b*y.b:=rfl
@[simp] theorem mul_b (x y:Eis):(x*y).b=x.a*y.b+x.b*y.a - x.b*y.b:=rfl
@[simp] theorem neg_a (x:Eis):(-x).a=-x.a:=rfl
@[simp] theorem neg_b (x:Eis):(-x).b=-x.b:=rfl
@[simp] theorem sub_a (x y:Eis):(x - y).a=x.a - y.a:=rfl
@[simp] theorem sub_b (x y:Eis):(x - y).b=x.b - y.b:=rfl
@[simp] theorem nat_a (n:Nat):((n:Eis)).a=n:=rfl
@[simp] theorem nat_b (n:Nat):((n:Eis)).b=0:=rfl
@[simp] theorem int_a (n:Int):((n:Eis)).a=n:=rfl
@[simp] theorem int_b (n:Int):((n:Eis)).b=0:=rfl
@[simp] theorem of_a (n:Nat):(OfNat.ofNat n:Eis).a=n:=rfl
@[simp] theorem of_b (n:Nat):(OfNat.ofNat n:Eis).b=0:=rfl
@[simp] theorem z_a:(0:Eis).a=0:=rfl
@[simp] theorem z_b:(0:Eis).b=0:=rfl
@[simp] theorem o_a:(1:Eis).a=1:=rfl
@[simp] theorem o_b:(1:Eis).b=0:=rfl
@[simp] theorem zs_a (n:Int) (x:Eis):(n • x).a=n*x.a:=by show n*x.a - 0*x.b=_;omega
@[simp] theorem zs_b (n:Int) (x:Eis):(n • x).b=n*x.b:=by show n*x.b+0*x.a - 0*x.b=_;omega
@[simp] theorem ns_a (n:Nat) (x:Eis):(n • x).a=n*x.a:=by show(n:Int)*x.a - 0*x.b=_;omega
@[simp] theorem ns_b (n:Nat) (x:Eis):(n • x).b=n*x.b:=by show(n:Int)*x.b+0*x.a - 0*x.b=_;omega
theorem nat_e (n:Nat):(Nat.cast n:Eis)=⟨n,0⟩:=rfl
theorem int_e (n:Int):(Int.cast n:Eis)=⟨n,0⟩:=rfl
instance:Lean.Grind.CommRing Eis where
 add_zero x:=by apply ext' <;> simp
 add_comm x y:=by apply ext' <;> simp <;> omega
 add_assoc x y z:=by apply ext' <;> simp <;> omega
 mul_assoc x y z:=by apply ext' <;> simp <;> grind
 mul_one x:=by apply ext' <;> simp
 one_mul x:=by apply ext' <;> simp
 left_distrib x y z:=by apply ext' <;> simp <;> grind
 right_distrib x y z:=by apply ext' <;> simp <;> grind
 zero_mul x:=by apply ext' <;> simp
 mul_zero x:=by apply ext' <;> simp
 pow_zero x:=rfl
 pow_succ x n:=rfl
 ofNat_succ n:=by apply ext' <;> simp
 ofNat_eq_natCast n:=rfl
 nsmul_eq_natCast_mul n x:=rfl
 neg_add_cancel x:=by apply ext' <;> simp <;> omega
 sub_eq_add_neg x y:=by apply ext' <;> simp <;> omega
 neg_zsmul n x:=by apply ext' <;> simp [Int.neg_mul]
 zsmul_natCast_eq_nsmul n x:=by apply ext' <;> simp
 intCast_ofNat n:=rfl
 intCast_neg n:=by apply ext' <;> simp
 mul_comm x y:=by apply ext' <;> simp <;> grind
def C:Nat→Nat→Nat
 |_,0=>1
 |0,_+1=>0
 |n+1,k+1=>C n k+C n (k+1)
theorem C_zero (n:Nat):C n 0=1:=by cases n <;> rfl
theorem C_over:∀(n k:Nat),n<k→C n k=0
 |_,0,h=>by omega
 |0,_+1,_=>rfl
 |n+1,k+1,h=>by
  show C n k+C n (k+1)=0
  rw [C_over n k (by omega),C_over n (k+1) (by omega)]
theorem C_self:∀n,C n n=1
 |0=>rfl
 |n+1=>by
  show C n n+C n (n+1)=1
  rw [C_self n,C_over n (n+1) (by omega)]
theorem C_mul:∀(n k:Nat),(k+1)*C (n+1) (k+1)=(n+1)*C n k
 |0,0=>rfl
 |0,k+1=>by
  show(k+2)*(C 0 (k+1)+C 0 (k+2))=1*C 0 (k+1)
  simp [C]
 |n+1,0=>by
  have h:=C_mul n 0;rw [C_zero] at h
  show 1*(C (n+1) 0+C (n+1) 1)=(n+2)*C (n+1) 0
  rw [C_zero];simp only [Nat.zero_add,Nat.one_mul,Nat.mul_one] at h ⊢
  omega
 |n+1,k+1=>by
  have h1:=C_mul n k;have h2:=C_mul n (k+1);have h3:C (n+1) (k+1)=C n k+C n (k+1):=rfl
  show(k+2)*(C (n+1) (k+1)+C (n+1) (k+2))=(n+2)*C (n+1) (k+1)
  grind
def F (n:Nat) (u:Eis):Nat→Eis
 |0=>0
 |k+1=>F n u k+(C n k:Eis)*u ^ k
theorem nc_add (m n:Nat):((m+n:Nat):Eis)=(m:Eis)+(n:Eis):=by apply ext' <;> simp
theorem nc_mul (m n:Nat):((m*n:Nat):Eis)=(m:Eis)*(n:Eis):=by apply ext' <;> simp
theorem nc_zero:((0:Nat):Eis)=0:=rfl
theorem nc_one:((1:Nat):Eis)=1:=rfl
theorem F_step (n:Nat) (u:Eis):∀k,F (n+1) u (k+1)=F n u (k+1)+u*F n u k
 |0=>by
  simp only [F,C_zero]
  grind
 |k+1=>by
  have h:=F_step n u k;have e1:F (n+1) u (k+2)=F (n+1) u (k+1)+((C n k+C n (k+1):Nat):Eis)*u ^ (k+1):=rfl;have e2:F n u (k+2)=F n u (k+1)+(C n (k+1):Eis)*u ^ (k+1):=rfl;have e3:F n u (k+1)=F n u k+(C n k:Eis)*u ^ k:=rfl;have e4:u ^ (k+1)=u ^ k*u:=rfl;rw [e1,e2,h,nc_add,e4]
  grind
theorem binom (u:Eis):∀n,(u+1) ^ n=F n u (n+1)
 |0=>by
  show(1:Eis)=0+(1:Eis)*1
  grind
 |n+1=>by
  have h:=binom u n;have e:(u+1) ^ (n+1)=(u+1) ^ n*(u+1):=rfl;have e2:F n u (n+2)=F n u (n+1)+(C n (n+1):Eis)*u ^ (n+1):=rfl;rw [C_over n (n+1) (by omega),nc_zero] at e2;rw [e,h,F_step,e2]
  grind
structure Pr (p:Nat):Prop where
 two:2≤p
 dvd:∀a b:Nat,p ∣ a*b→p ∣ a∨p ∣ b
theorem Pr.C {p:Nat} (h:Pr p) (k:Nat) (h1:1≤k) (h2:k<p):p ∣ Eis.C p k:=by
 obtain⟨j,rfl⟩:∃j,k=j+1:=⟨k - 1,by omega⟩
 obtain⟨q,rfl⟩:∃q,p=q+1:=⟨p - 1,by have:=h.two;omega⟩
 have e:=C_mul q j
 rcases h.dvd _ _ ⟨_,e⟩ with h3|h3
 ·exact absurd (Nat.le_of_dvd (by omega) h3) (by omega)
 ·exact h3
theorem F_mod {p:Nat} (h:Pr p) (u:Eis):∀k,k<p→∃c,F p u (k+1)=1+(p:Eis)*c
 |0,_=>⟨0,by
  show 0+(Eis.C p 0:Eis)*1=_
  rw [C_zero,nc_one]
  grind⟩
 |k+1,hk=>by
  obtain⟨c,hc⟩:=F_mod h u k (by omega);obtain⟨d,hd⟩:=h.C (k+1) (by omega) hk;have e:F p u (k+2)=F p u (k+1)+(Eis.C p (k+1):Eis)*u ^ (k+1):=rfl;refine⟨c+d*u ^ (k+1),?_⟩;rw [e,hc,hd,nc_mul]
  grind
theorem frob1 {p:Nat} (h:Pr p) (u:Eis):∃c,(u+1) ^ p=u ^ p+1+(p:Eis)*c:=by
 have h2:=h.two;obtain⟨c,hc⟩:=F_mod h u (p - 1) (by omega);rw [show p - 1+1=p by omega] at hc;refine⟨c,?_⟩;have e:F p u (p+1)=F p u p+(Eis.C p p:Eis)*u ^ p:=rfl;rw [binom,e,hc,C_self,nc_one]
 grind
theorem frobN {p:Nat} (h:Pr p) (u:Eis):∀n:Nat,∃c,(u+(n:Eis)) ^ p=u ^ p+(n:Eis)+(p:Eis)*c
 |0=>⟨0,by rw [nc_zero,show u+0=u by grind];grind⟩
 |n+1=>by
  obtain⟨c,hc⟩:=frobN h u n;obtain⟨d,hd⟩:=frob1 h (u+(n:Eis));refine⟨c+d,?_⟩;rw [nc_add,nc_one,show u+((n:Eis)+1)=u+(n:Eis)+1 by grind,hd,hc]
  grind
theorem pow_int (a:Int):∀n:Nat,(⟨a,0⟩:Eis) ^ n=⟨a ^ n,0⟩
 |0=>by
  show(1:Eis)=_
  rw [Int.pow_zero];rfl
 |n+1=>by
  have e:(⟨a,0⟩:Eis) ^ (n+1)=(⟨a,0⟩:Eis) ^ n*⟨a,0⟩:=rfl;rw [e,pow_int a n,Int.pow_succ];apply ext' <;> simp
theorem fermN {p:Nat} (h:Pr p) (n:Nat):(p:Int) ∣ (n:Int) ^ p - n:=by
 obtain⟨c,hc⟩:=frobN h 0 n;have e0:(0:Eis) ^ p=0:=by
  obtain⟨q,rfl⟩:∃q,p=q+1:=⟨p - 1,by have:=h.two;omega⟩
  show(0:Eis) ^ q*0=0
  grind
 have e1:(0:Eis)+(n:Eis)=⟨n,0⟩:=by apply ext' <;> simp
 rw [e0,e1,pow_int] at hc;have:=congrArg Eis.a hc
 simp at this
 exact⟨c.a,by omega⟩
theorem pow_cong {p:Nat} {a b:Int} (h:(p:Int) ∣ a - b):∀n:Nat,(p:Int) ∣ a ^ n - b ^ n
 |0=>by simp
 |n+1=>by
  obtain⟨c,hc⟩:=h;obtain⟨d,hd⟩:=pow_cong ⟨c,hc⟩ n;rw [Int.pow_succ,Int.pow_succ];exact⟨d*a+b ^ n*c,by grind⟩
theorem fermI {p:Nat} (h:Pr p) (a:Int):(p:Int) ∣ a ^ p - a:=by
 have h2:=h.two;obtain⟨n,hn⟩:∃n:Nat,a % p=n:=⟨(a % p).toNat,by have:=Int.emod_nonneg a (show(p:Int)≠0 by omega);omega⟩
 have hd:(p:Int) ∣ a - n:=by rw [← hn];exact⟨a / p,by have:=Int.mul_ediv_add_emod a p;omega⟩
 obtain⟨c,hc⟩:=pow_cong hd p;obtain⟨d,hd'⟩:=fermN h n;obtain⟨e,he⟩:=hd;exact⟨c+d - e,by grind⟩
theorem Pr.int {p:Nat} (h:Pr p) {a b:Int} (hd:(p:Int) ∣ a*b):(p:Int) ∣ a∨(p:Int) ∣ b:=by
 have:p ∣ a.natAbs*b.natAbs:=by rw [← Int.natAbs_mul];exact Int.ofNat_dvd_left.mp hd
 rcases h.dvd _ _ this with h|h
 ·exact .inl (Int.ofNat_dvd_left.mpr h)
 ·exact .inr (Int.ofNat_dvd_left.mpr h)
theorem Pr.pow {p:Nat} (h:Pr p) {a:Int}:∀n:Nat,(p:Int) ∣ a ^ n→(p:Int) ∣ a
 |0,hd=>by
  have h2:=h.two;have:(p:Int) ∣ 1:=by simpa using hd
  have:=Int.le_of_dvd (by decide) this
  omega
 |n+1,hd=>by
  rw [Int.pow_succ] at hd
  rcases h.int hd with h1|h1
  ·exact Pr.pow h n h1
  ·exact h1
theorem ferm1 {p:Nat} (h:Pr p) (a:Int) (ha:¬(p:Int) ∣ a):(p:Int) ∣ a ^ (p - 1) - 1:=by
 have h2:=h.two;have e:=fermI h a;obtain⟨q,hq⟩:∃q,p=q+1:=⟨p - 1,by omega⟩
 have:(p:Int) ∣ a*(a ^ (p - 1) - 1):=by
  have e2:a ^ p - a=a*(a ^ (p - 1) - 1):=by
   rw [hq,Nat.add_sub_cancel,Int.pow_succ]
   grind
  rwa [← e2]
 exact(h.int this).resolve_left ha
def enm (x:Eis):Int:=x.a*x.a - x.a*x.b+x.b*x.b
theorem nm_mul (x y:Eis):enm (x*y)=enm x*enm y:=by
 simp only [enm,mul_a,mul_b]
 grind
def Dv (m x:Eis):Prop:=∃c,x=m*c
theorem Dv.enm {m x:Eis} (h:Dv m x):Eis.enm m ∣ Eis.enm x:=by
 obtain⟨c,rfl⟩:=h;exact⟨Eis.enm c,nm_mul m c⟩
theorem split_b {p:Nat} (h:Pr p) {m:Eis} (hm:enm m=p):¬(p:Int) ∣ m.b:=by
 intro hb;have h2:=h.two;obtain⟨c,hc⟩:=hb;have ha:(p:Int) ∣ m.a*m.a:=⟨1+m.a*c - m.b*c,by
  simp only [enm] at hm
  grind⟩
 obtain⟨d,hd⟩:(p:Int) ∣ m.a:=(h.int ha).elim id id;have:(p:Int)=p*p*(d*d - d*c+c*c):=by
  simp only [enm] at hm;rw [hd,hc] at hm
  grind
 have h1:(p:Int)*(p*(d*d - d*c+c*c) - 1)=0:=by grind
 rcases Int.mul_eq_zero.mp h1 with h3|h3
 ·omega
 ·have:(p:Int) ∣ 1:=⟨d*d - d*c+c*c,by omega⟩
  have:=Int.le_of_dvd (by decide) this
  omega
theorem split_iff {p:Nat} (h:Pr p) {m:Eis} (hm:enm m=p) (z:Eis):Dv m z↔(p:Int) ∣ m.b*z.a - m.a*z.b:=by
 have h2:=h.two
 constructor
 ·rintro⟨c,rfl⟩;refine⟨-c.b,?_⟩;simp only [enm] at hm;simp only [mul_a,mul_b];rw [← hm]
  grind
 ·rintro⟨k,hk⟩;have hx:(p:Int) ∣ m.b*(z.a*m.a - z.a*m.b+m.b*z.b):=⟨z.b+(m.a - m.b)*k,by
   simp only [enm] at hm;rw [← hm] at hk ⊢
   grind⟩
  obtain⟨j,hj⟩:=(h.int hx).resolve_left (split_b h hm);refine⟨⟨j,-k⟩,?_⟩;have hp:(p:Int)≠0:=by omega
  apply ext'
  ·apply Int.eq_of_mul_eq_mul_left hp;simp only [mul_a];simp only [enm] at hm;have:(p:Int)*(m.a*j - m.b* -k)=m.a*(p*j)+m.b*(p*k):=by grind
   rw [this,← hj,← hk,← hm]
   grind
  ·apply Int.eq_of_mul_eq_mul_left hp;simp only [mul_b];simp only [enm] at hm;have:(p:Int)*(m.a* -k+m.b*j - m.b* -k)=- (m.a*(p*k))+m.b*(p*j)+m.b*(p*k):=by grind
   rw [this,← hj,← hk,← hm]
   grind
theorem split_euclid {p:Nat} (h:Pr p) {m:Eis} (hm:enm m=p) {x y:Eis} (hd:Dv m (x*y)):Dv m x∨Dv m y:=by
 rw [split_iff h hm] at hd ⊢;rw [split_iff h hm];obtain⟨k,hk⟩:=hd;refine h.int ⟨m.b*k+x.b*y.b,?_⟩;simp only [mul_a,mul_b] at hk;simp only [enm] at hm;have:(p:Int)*(m.b*k+x.b*y.b)=m.b*(p*k)+x.b*y.b*p:=by grind
 rw [this,← hk,← hm]
 grind
theorem pow_s (x:Eis) (n:Nat):x ^ (n+1)=x ^ n*x:=rfl
theorem pow_z (x:Eis):x ^ 0=1:=rfl
theorem pow_a (x:Eis) (m:Nat):∀n:Nat,x ^ (m+n)=x ^ m*x ^ n
 |0=>by rw [pow_z];show x ^ m=_;grind
 |n+1=>by rw [← Nat.add_assoc,pow_s,pow_a x m n,pow_s];grind
theorem pow_m (x:Eis) (m:Nat):∀n:Nat,x ^ (m*n)=(x ^ m) ^ n
 |0=>rfl
 |n+1=>by rw [Nat.mul_succ,pow_a,pow_m x m n,pow_s]
theorem mul_p (x y:Eis):∀n:Nat,(x*y) ^ n=x ^ n*y ^ n
 |0=>by rw [pow_z,pow_z,pow_z];grind
 |n+1=>by rw [pow_s,mul_p x y n,pow_s,pow_s];grind
theorem split_ferm {p:Nat} (h:Pr p) {m:Eis} (hm:enm m=p) (z:Eis) (hz:¬Dv m z):Dv m (z ^ (p - 1) - 1):=by
 have h2:=h.two;rw [split_iff h hm] at hz ⊢;have hb:=split_b h hm;obtain⟨s,hs⟩:∃s,s=m.b*z.a - m.a*z.b:=⟨_,rfl⟩
 have key:∀n:Nat,(p:Int) ∣ (m.b*(z ^ (n+1)).a - m.a*(z ^ (n+1)).b)*m.b ^ n - s ^ (n+1):=by
  intro n
  induction n with
  |zero=>
   have:z ^ (0+1)=z:=by rw [pow_s,pow_z];grind
   rw [this,Int.pow_succ,Int.pow_zero,Int.pow_zero,hs];exact⟨0,by grind⟩
  |succ n ih=>
   obtain⟨k,hk⟩:=ih;rw [pow_s z (n+1),Int.pow_succ m.b,Int.pow_succ s (n+1)];refine⟨k*s - (z ^ (n+1)).b*z.b*m.b ^ n,?_⟩;simp only [mul_a,mul_b];simp only [enm] at hm;have:(p:Int)*(k*s - (z ^ (n+1)).b*z.b*m.b ^ n)=(p*k)*s - p*((z ^ (n+1)).b*z.b*m.b ^ n):=by grind
   rw [this,← hk,← hm,hs]
   grind
 have k1:=key (p - 2);rw [show p - 2+1=p - 1 by omega] at k1;rw [← hs] at hz;obtain⟨c1,e1⟩:=k1;obtain⟨c2,e2⟩:=ferm1 h s hz;obtain⟨c3,e3⟩:=ferm1 h m.b hb;rw [show p - 1=p - 2+1 by omega,Int.pow_succ] at e3;have:(p:Int) ∣ m.b ^ (p - 2)*(m.b*(z ^ (p - 1) - 1).a - m.a*(z ^ (p - 1) - 1).b):=by
  refine⟨c1+c2 - c3,?_⟩;simp only [sub_a,sub_b,o_a,o_b]
  grind
 exact(h.int this).resolve_left fun hh=>hb (h.pow _ hh)
theorem inert_dvd {p:Nat} (h:Pr p) (h3:p % 3=2) {z:Eis} (hd:(p:Int) ∣ enm z):(p:Int) ∣ z.a∧(p:Int) ∣ z.b:=by
 have h2:=h.two;obtain⟨k,hk⟩:=hd;simp only [enm] at hk;have hab:(p:Int) ∣ z.b→(p:Int) ∣ z.a:=by
  rintro⟨d,hd⟩;have:(p:Int) ∣ z.a*z.a:=⟨k+z.a*d - z.b*d,by grind⟩
  exact(h.int this).elim id id
 by_cases hb:(p:Int) ∣ z.b
 ·exact⟨hab hb,hb⟩
 exfalso
 have ha:¬(p:Int) ∣ z.a:=by
  rintro⟨d,hd⟩;have:(p:Int) ∣ z.b*z.b:=⟨k - z.a*d+z.b*d,by grind⟩
  exact hb ((h.int this).elim id id)
 have hc:¬(p:Int) ∣ -z.b:=fun hh=>hb ((Int.dvd_neg).mp hh)
 obtain⟨m,hm⟩:∃m,p=3*m+2:=⟨p / 3,by omega⟩
 have hcube:(p:Int) ∣ z.a*z.a*z.a - (-z.b)*(-z.b)*(-z.b):=⟨k*(z.a+z.b),by grind⟩
 obtain⟨c0,e0⟩:=pow_cong hcube m;obtain⟨c1,e1⟩:=ferm1 h z.a ha;obtain⟨c2,e2⟩:=ferm1 h (-z.b) hc;have cube:∀(a:Int) (n:Nat),a ^ (3*n+1)=(a*a*a) ^ n*a:=by
  intro a n
  induction n with
  |zero=>
   show a ^ (0+1)=(a*a*a) ^ 0*a
   rw [Int.pow_succ,Int.pow_zero,Int.pow_zero]
  |succ n ih=>
   rw [show 3*(n+1)+1=3*n+1+1+1+1 by omega,Int.pow_succ,Int.pow_succ,Int.pow_succ,ih,Int.pow_succ]
   grind
 rw [show p - 1=3*m+1 by omega,cube] at e1 e2;have ht:¬(p:Int) ∣ (z.a*z.a*z.a) ^ m:=by
  rintro⟨d,hd⟩;rw [hd] at e1;have:(p:Int) ∣ 1:=⟨d*z.a - c1,by grind⟩
  have:=Int.le_of_dvd (by decide) this
  omega
 have hs:(p:Int) ∣ (z.a*z.a*z.a) ^ m*(z.a+z.b):=⟨c1 - c2+c0*z.b,by
  generalize (z.a*z.a*z.a) ^ m=A at *;generalize (-z.b* -z.b* -z.b) ^ m=B at *;clear cube hcube
  grind⟩
 obtain⟨d,hd⟩:=(h.int hs).resolve_left ht;have h4:(p:Int) ∣ 3*(z.b*z.b):=⟨k - d*(z.a - 2*z.b),by grind⟩
 rcases h.int h4 with h5|h5
 ·have:=Int.le_of_dvd (by decide) h5;have:p=2:=by omega
  subst this
  omega
 ·exact hb ((h.int h5).elim id id)
def conj (x:Eis):Eis:=⟨x.a - x.b,-x.b⟩
theorem inert_iff {p:Nat} (h:Pr p) (h3:p % 3=2) {m:Eis} (hm:enm m=p*p) (z:Eis):Dv m z↔(p:Int) ∣ z.a∧(p:Int) ∣ z.b:=by
 have h2:=h.two;obtain⟨⟨a,ha⟩,⟨b,hb⟩⟩:=inert_dvd h h3 (z:=m) ⟨p,hm⟩;have hu:a*a - a*b+b*b=1:=by
  simp only [enm] at hm;rw [ha,hb] at hm;have:(p:Int)*(p*(a*a - a*b+b*b - 1))=0:=by grind
  rcases Int.mul_eq_zero.mp this with h4|h4
  ·omega
  ·rcases Int.mul_eq_zero.mp h4 with h5|h5 <;> omega
 constructor
 ·rintro⟨c,rfl⟩;simp only [mul_a,mul_b];exact⟨⟨a*c.a - b*c.b,by rw [ha,hb];grind⟩,⟨a*c.b+b*c.a - b*c.b,by rw [ha,hb];grind⟩⟩
 ·rintro⟨⟨x,hx⟩,⟨y,hy⟩⟩;refine⟨conj ⟨a,b⟩*⟨x,y⟩,?_⟩;apply ext'
  ·simp only [mul_a,mul_b,conj];rw [ha,hb,hx]
   grind
  ·simp only [mul_a,mul_b,conj];rw [ha,hb,hy]
   grind
theorem inert_euclid {p:Nat} (h:Pr p) (h3:p % 3=2) {m:Eis} (hm:enm m=p*p) {x y:Eis} (hd:Dv m (x*y)):Dv m x∨Dv m y:=by
 rw [inert_iff h h3 hm] at hd ⊢;rw [inert_iff h h3 hm];obtain⟨⟨a,ha⟩,⟨b,hb⟩⟩:=hd;have:(p:Int) ∣ enm x*enm y:=by
  rw [← nm_mul,enm,ha,hb];exact⟨a*(p*a) - a*(p*b)+b*(p*b),by grind⟩
 rcases h.int this with h5|h5
 ·exact .inl (inert_dvd h h3 h5)
 ·exact .inr (inert_dvd h h3 h5)
theorem ic_neg (n:Nat):((-(n:Int):Int):Eis)=-(n:Eis):=by apply ext' <;> simp
theorem frobM {p:Nat} (h:Pr p) (u:Eis):∀n:Nat,∃c,(u - (n:Eis)) ^ p=u ^ p - (n:Eis)+(p:Eis)*c
 |0=>⟨0,by rw [nc_zero,show u - 0=u by grind];grind⟩
 |n+1=>by
  obtain⟨c,hc⟩:=frobM h u n;obtain⟨d,hd⟩:=frob1 h (u - ((n+1:Nat):Eis));refine⟨c - d,?_⟩;rw [nc_add,nc_one] at hd ⊢;rw [show u - ((n:Eis)+1)+1=u - (n:Eis) by grind,hc] at hd
  grind
theorem frobZ {p:Nat} (h:Pr p) (u:Eis) (x:Int):∃c,(u+(x:Eis)) ^ p=u ^ p+(x:Eis)+(p:Eis)*c:=by
 rcases Int.eq_nat_or_neg x with ⟨n,rfl|rfl⟩
 ·exact frobN h u n
 ·obtain⟨c,hc⟩:=frobM h u n;refine⟨c,?_⟩;rw [ic_neg,show u+ -(n:Eis)=u - (n:Eis) by grind,hc]
  grind
theorem frob {p:Nat} (h:Pr p) (h3:p % 3=2) (z:Eis):∃c,z ^ p=conj z+(p:Eis)*c:=by
 obtain⟨c,hc⟩:=frobZ h (⟨z.b,0⟩*⟨0,1⟩) z.a;have e:(⟨z.b,0⟩:Eis)*⟨0,1⟩+(z.a:Eis)=z:=by apply ext' <;> simp
 obtain⟨m,hm⟩:∃m,p=3*m+2:=⟨p / 3,by omega⟩
 have w3:∀n:Nat,(⟨0,1⟩:Eis) ^ (3*n)=1:=by
  intro n;rw [pow_m]
  induction n with
  |zero=>rfl
  |succ n ih=>rw [pow_s,ih];rfl
 have w:(⟨0,1⟩:Eis) ^ p=⟨-1,-1⟩:=by rw [hm,pow_a,w3];rfl
 obtain⟨k,hk⟩:=fermI h z.b;rw [e,mul_p,pow_int,w] at hc;refine⟨c+⟨-k,-k⟩,?_⟩;rw [hc];apply ext' <;> simp [conj] <;> grind
theorem inert_ferm {p:Nat} (h:Pr p) (h3:p % 3=2) {m:Eis} (hm:enm m=p*p) (z:Eis) (hz:¬Dv m z):Dv m (z ^ (p*p - 1) - 1):=by
 have h2:=h.two;obtain⟨c,hc⟩:=frob h h3 z;obtain⟨d,hd⟩:=frob h h3 (z ^ p);have e:z ^ (p*p)=z+(p:Eis)*(conj c+d):=by
  rw [pow_m,hd,hc];apply ext' <;> simp [conj] <;> grind
 have hp:1≤p*p:=Nat.mul_pos (by omega) (by omega);obtain⟨q,hq⟩:∃q,p*p=q+1:=⟨p*p - 1,by omega⟩
 have:Dv m (z*(z ^ (p*p - 1) - 1)):=by
  rw [hq,Nat.add_sub_cancel];rw [hq,pow_s] at e;have e2:z*(z ^ q - 1)=(p:Eis)*(conj c+d):=by grind
  rw [e2,inert_iff h h3 hm]
  constructor
  ·exact⟨(conj c+d).a,by simp⟩
  ·exact⟨(conj c+d).b,by simp⟩
 exact(inert_euclid h h3 hm this).resolve_left hz
theorem third {m:Eis} (eu:∀{x y:Eis},Dv m (x*y)→Dv m x∨Dv m y) (z:Eis) (n:Nat) (hz:Dv m (z ^ (3*n) - 1)):Dv m (z ^ n - ⟨1,0⟩)∨Dv m (z ^ n - ⟨0,1⟩)∨Dv m (z ^ n - ⟨-1,-1⟩):=by
 have e:z ^ (3*n)=z ^ n*z ^ n*z ^ n:=by
  rw [show 3*n=n+n+n by omega,pow_a,pow_a]
 have e2:(z ^ n - ⟨1,0⟩)*((z ^ n - ⟨0,1⟩)*(z ^ n - ⟨-1,-1⟩))=z ^ (3*n) - 1:=by
  rw [e];apply ext' <;> simp <;> grind
 rw [← e2] at hz
 rcases eu hz with h|h
 ·exact .inl h
 ·exact .inr (eu h)
end Eis
theorem least_pr {n q:Nat} (h2:2≤q) (hq:q ∣ n) (hl:∀d,2≤d→d<q→¬d ∣ n):Eis.Pr q:=by
 refine⟨h2,fun a b hd=>?_⟩
 by_cases ha:q ∣ a
 ·exact .inl ha
 ·have hg:=Nat.gcd_dvd_left q a;have hle:=Nat.le_of_dvd (by omega) hg;have h0:Nat.gcd q a≠0:=fun h=>by have:=Nat.eq_zero_of_gcd_eq_zero_left h;omega
  have hne:Nat.gcd q a≠q:=fun h=>ha (h ▸ Nat.gcd_dvd_right q a)
  have h1:Nat.gcd q a=1:=by
   by_cases c:2≤Nat.gcd q a
   ·exact absurd (Nat.dvd_trans hg hq) (hl _ c (by omega))
   ·omega
  exact .inr (Nat.Coprime.dvd_of_dvd_mul_left h1 hd)
theorem no_div {n:Nat} (h:∀d,2≤d→d*d≤n→¬d ∣ n) (d:Nat) (hd:2≤d) (hn:d<n):¬d ∣ n:=by
 rintro⟨c,hc⟩
 by_cases hs:d*d≤n
 ·exact h d hd hs ⟨c,hc⟩
 ·have h1:c<d:=by
   rcases Nat.lt_or_ge c d with h|h
   ·exact h
   ·have:=Nat.mul_le_mul_left d h
    omega
  have h2:2≤c:=by
   rcases Nat.lt_or_ge c 2 with h|h
   ·have:c=0∨c=1:=by omega
    rcases this with rfl|rfl <;> omega
   ·exact h
  have h3:c*c≤n:=by
   rw [hc];exact Nat.mul_le_mul_right c (by omega)
  exact h c h2 h3 ⟨d,by rw [hc,Nat.mul_comm]⟩
theorem square_only {q d:Nat} (h:Eis.Pr q) (hd:2≤d) (hq:d≠q) (hp:∀c,2≤c→c<d→¬c ∣ d):¬d ∣ q*q:=by
 intro hh;have hpd:Eis.Pr d:=least_pr hd (Nat.dvd_refl d) hp;have h1:d ∣ q:=(hpd.dvd q q hh).elim id id;have h2:=h.two;have hle:=Nat.le_of_dvd (by omega) h1;obtain⟨c,hc⟩:=h1
 rcases h.dvd d c ⟨1,by rw [hc,Nat.mul_one]⟩ with h3|h3
 ·have:=Nat.le_of_dvd (by omega) h3
  omega
 ·have hc0:0<c:=by
   rcases Nat.eq_zero_or_pos c with h|h
   ·subst h;omega
   ·exact h
  have:=Nat.le_of_dvd hc0 h3;have h5:c*2≤d*c:=by rw [Nat.mul_comm];exact Nat.mul_le_mul_right c hd
  omega
namespace Eis
theorem nm_mod {N:Nat} {m:Eis} (hm:enm m=N) (h3:N % 3≠0):N % 3=1:=by
 obtain⟨k,r,hk,hr⟩:∃k r:Int,m.a+m.b=3*k+r∧(r=0∨r=1∨r=2):=⟨(m.a+m.b) / 3,(m.a+m.b) % 3,by omega,by omega⟩
 have e:(N:Int)=3*(3*(k*k)+2*(k*r) - m.a*m.b)+r*r:=by
  rw [← hm];simp only [enm];have:m.a=3*k+r - m.b:=by omega
  rw [this]
  grind
 generalize 3*(k*k)+2*(k*r) - m.a*m.b=t at e
 rcases hr with rfl|rfl|rfl <;> omega
theorem symbol {N q:Nat} {m:Eis} (hm:enm m=N) (hq:Pr q) (hc:N=q∨(q % 3=2∧N=q*q)) (h3:N % 3≠0) (z:Eis) (hz:¬Dv m z):
  Dv m (z ^ ((N - 1) / 3) - ⟨1,0⟩)∨Dv m (z ^ ((N - 1) / 3) - ⟨0,1⟩)∨Dv m (z ^ ((N - 1) / 3) - ⟨-1,-1⟩):=by
 have h1:=nm_mod hm h3;have e:N - 1=3*((N - 1) / 3):=by omega
 rcases hc with rfl|⟨h5,rfl⟩
 ·refine third (fun h=>split_euclid hq hm h) z _ ?_;rw [← e];exact split_ferm hq hm z hz
 ·have hm2:enm m=(q:Int)*q:=by rw [hm];simp
  refine third (fun h=>inert_euclid hq h5 hm2 h) z _ ?_;rw [← e];exact inert_ferm hq h5 hm2 z hz
end Eis
theorem cyFloor (a q:Int) (ha:-1000000000000000≤a∧a≤1000000000000000) (hq:1≤q):spec_l09Floor.f a q=some (a / q):=by
 have h0:=Int.mul_ediv_add_emod a q;have h1:=Int.emod_nonneg a (show q≠0 by omega);have h2:=Int.emod_lt_of_pos a (show 0<q by omega);have hl:-1000000000000000≤a / q:=Int.le_ediv_of_mul_le (by omega) (by omega);have hu:=Int.ediv_lt_of_lt_mul (a:=a) (b:=1000000000000001) (show 0<q by omega) (by omega);unfold spec_l09Floor.f;rw [if_neg (by omega),Int.tdiv_eq_ediv,Int.tmod_eq_emod]
 by_cases c:0≤a∨q ∣ a
 ·rw [if_pos c,if_pos c,if_neg (by omega),w64 (by omega) (by omega)];rw [Int.add_zero]
 ·rw [if_neg c,if_neg c,Int.sign_eq_one_of_pos (by omega)];have h3:¬a % q=0:=fun e=>c (Or.inr (Int.dvd_of_emod_eq_zero e))
  rw [if_pos (by omega),w64 (x:=a / q+1) (by omega) (by omega),w64 (by omega) (by omega),Int.add_sub_cancel]
theorem cyQ {A n s x d:Int} (hn:1≤n) (hs0:0≤s) (hs:3*(s*s)≤4*n) (hA:0≤A) (hx:-(4*(A*s))≤x∧x≤4*(A*s)) (hd:-s≤d∧d≤s):-(6*A+2*s)≤(2*x+n) / (2*n)*d∧(2*x+n) / (2*n)*d≤6*A+2*s:=by
 obtain⟨q,hq⟩:∃q,q=(2*x+n) / (2*n):=⟨_,rfl⟩
 rw [← hq];have e0:=Int.mul_ediv_add_emod (2*x+n) (2*n);have e1:=Int.emod_nonneg (2*x+n) (show 2*n≠0 by omega);have e2:=Int.emod_lt_of_pos (2*x+n) (show 0<2*n by omega);rw [← hq] at e0;have b1:n*q≤x+n:=by rw [Int.mul_assoc] at e0;omega
 have b2:x - n≤n*q:=by rw [Int.mul_assoc] at e0;omega
 have c1:n*q≤4*(A*s)+n:=by omega
 have c2:-(4*(A*s)+n)≤n*q:=by omega
 have hAs:A*(3*(s*s))≤A*(4*n):=Int.mul_le_mul_of_nonneg_left hs hA;have d1:n*q*s≤(4*(A*s)+n)*s:=Int.mul_le_mul_of_nonneg_right c1 hs0;have d2:-(4*(A*s)+n)*s≤n*q*s:=Int.mul_le_mul_of_nonneg_right c2 hs0;have f1:n*(q*s)≤n*(6*A+2*s):=by
  have:(4*(A*s)+n)*s=4*(A*(s*s))+n*s:=by grind
  have g1:A*(3*(s*s))=3*(A*(s*s)):=by grind
  have g2:A*(4*n)=4*(n*A):=by grind
  have g3:n*(6*A+2*s)=6*(n*A)+2*(n*s):=by grind
  have g4:n*q*s=n*(q*s):=by grind
  have g5:0≤n*A:=Int.mul_nonneg (by omega) hA;have g6:0≤n*s:=Int.mul_nonneg (by omega) hs0
  omega
 have f2:n*(-(6*A+2*s))≤n*(q*s):=by
  have:-(4*(A*s)+n)*s=-(4*(A*(s*s))+n*s):=by grind
  have g1:A*(3*(s*s))=3*(A*(s*s)):=by grind
  have g2:A*(4*n)=4*(n*A):=by grind
  have g3:n*(-(6*A+2*s))=-(6*(n*A)+2*(n*s)):=by grind
  have g4:n*q*s=n*(q*s):=by grind
  have g5:0≤n*A:=Int.mul_nonneg (by omega) hA;have g6:0≤n*s:=Int.mul_nonneg (by omega) hs0
  omega
 have k1:q*s≤6*A+2*s:=Int.le_of_mul_le_mul_left f1 (by omega);have k2:-(6*A+2*s)≤q*s:=Int.le_of_mul_le_mul_left f2 (by omega)
 rcases Int.le_total 0 q with h|h
 ·have m1:q*d≤q*s:=Int.mul_le_mul_of_nonneg_left hd.2 h;have m2:q*(-s)≤q*d:=Int.mul_le_mul_of_nonneg_left hd.1 h;have:q*(-s)=-(q*s):=by grind
  omega
 ·have m1:(-q)*d≤(-q)*s:=Int.mul_le_mul_of_nonneg_left hd.2 (by omega);have m2:(-q)*(-s)≤(-q)*d:=Int.mul_le_mul_of_nonneg_left hd.1 (by omega);have e3:(-q)*(-s)=q*s:=by grind
  have e4:(-q)*d=-(q*d):=by grind
  have e5:(-q)*s=-(q*s):=by grind
  omega
theorem cyS {c d s:Int} (h:(c=s∨c=-s)∨(d=s∨d=-s)):3*(s*s)≤4*nm c d:=by
 have h1:=nm_four c d;have h2:=nm_four2 c d;have p1_:0≤(2*c - d)*(2*c - d):=by rcases Int.le_total 0 (2*c - d) with h|h;exact Int.mul_nonneg h h;exact Int.mul_nonneg_of_nonpos_of_nonpos h h
 have p2_:0≤(2*d - c)*(2*d - c):=by rcases Int.le_total 0 (2*d - c) with h|h;exact Int.mul_nonneg h h;exact Int.mul_nonneg_of_nonpos_of_nonpos h h
 rcases h with (rfl|rfl)|(rfl|rfl)
 ·omega
 ·have:-s* -s=s*s:=by grind
  omega
 ·omega
 ·have:-s* -s=s*s:=by grind
  omega
theorem cyDown (a q:Int) (ha:-1000000000000000≤a∧a≤1000000000000000) (hq:1≤q) (hq2:q≤1000000000000):impl_down.f a q=some (a / q):=by
 have h0:=Int.mul_ediv_add_emod a q;have h1:=Int.emod_nonneg a (show q≠0 by omega);have h2:=Int.emod_lt_of_pos a (show 0<q by omega);have hl:-1000000000000000≤a / q:=Int.le_ediv_of_mul_le (by omega) (by omega);have hu:=Int.ediv_lt_of_lt_mul (a:=a) (b:=1000000000000001) (show 0<q by omega) (by omega);unfold impl_down.f;rw [around a q (by omega) hq2,Option.bind_some,if_neg (by omega),w64 (x:=a - a % q) (by omega) (by omega),show a - a % q=q*(a / q) by omega,Int.mul_tdiv_cancel_left _ (by omega),w64 (by omega) (by omega)]
def Bnd (x:Int):Prop:=-100000000000≤x∧x≤100000000000
theorem cyTimes (n m x y c d:Int) (h1:Bnd (x*c)) (h2:Bnd (y*d)) (h3:Bnd (x*d)) (h4:Bnd (y*c)):spec_l09Times.f n [x,y] m [c,d]=some (3,[x*c - y*d,x*d+y*c - y*d]):=by
 unfold Bnd at h1 h2 h3 h4;unfold spec_l09Times.f spec_l09Of.f;rw [if_pos (by simp),if_pos (by simp),if_pos (by simp),if_pos (by simp),Option.bind_some];simp only [rd,Int.toNat_zero,Int.toNat_one,List.getD_cons_zero,List.getD_cons_succ];rw [w64 (x:=x*c) (by omega) (by omega),w64 (x:=y*d) (by omega) (by omega),w64 (x:=x*d) (by omega) (by omega),w64 (x:=y*c) (by omega) (by omega),w64 (x:=x*c - y*d) (by omega) (by omega),w64 (x:=x*d+y*c) (by omega) (by omega),w64 (x:=x*d+y*c - y*d) (by omega) (by omega)]
theorem cyTimesI (x y c d:Int) (h1:Bnd (x*c)) (h2:Bnd (y*d)) (h3:Bnd (x*d)) (h4:Bnd (y*c)):impl_cubic_times.f x y c d=some (x*c - y*d,x*d+y*c - y*d):=by
 unfold Bnd at h1 h2 h3 h4;unfold impl_cubic_times.f;rw [w64 (x:=x*c) (by omega) (by omega),w64 (x:=y*d) (by omega) (by omega),w64 (x:=x*d) (by omega) (by omega),w64 (x:=y*c) (by omega) (by omega),w64 (x:=x*c - y*d) (by omega) (by omega),w64 (x:=x*d+y*c) (by omega) (by omega),w64 (x:=x*d+y*c - y*d) (by omega) (by omega)]
def Big (a:Int):Prop:=-3000000000≤a∧a≤3000000000
def Sml (a:Int):Prop:=-20000≤a∧a≤20000
theorem cyProd {a b c d:Int} (ha:Big a) (hb:Big b) (hc:Sml c) (hd:Sml d) (h:¬(c=0∧d=0)):(Bnd (q1 a b c d*c)∧Bnd (q1 a b c d*d))∧(Bnd (q2 a b c d*c)∧Bnd (q2 a b c d*d)):=by
 unfold Big at ha hb;unfold Sml at hc hd;have hn:=nm_pos h;obtain⟨s,hs0,hs2,hcs,hds,hor⟩:∃s,0≤s∧s≤20000∧(-s≤c∧c≤s)∧(-s≤d∧d≤s)∧((c=s∨c=-s)∨(d=s∨d=-s)):=by
  refine⟨if (if 0≤c then c else -c)≤(if 0≤d then d else -d) then (if 0≤d then d else -d) else (if 0≤c then c else -c),?_,?_,?_,?_,?_⟩ <;> (split <;> split <;> (try split) <;> (try split) <;> omega)
 have hs:=cyS hor;have x1_:=mul_bd ha (show -(2*s)≤c - d∧c - d≤2*s by omega);have x2_:=mul_bd hb hds;have x3_:=mul_bd ha hds;have x4_:=mul_bd hb hcs;have p1_:-(4*(3000000000*s))≤dp a b c d∧dp a b c d≤4*(3000000000*s):=by
  have:dp a b c d=a*(c - d)+b*d:=by unfold dp;grind
  omega
 have p2_:-(4*(3000000000*s))≤dq a b c d∧dq a b c d≤4*(3000000000*s):=by
  have:dq a b c d=b*c - a*d:=by unfold dq;grind
  omega
 have k1:=cyQ (A:=3000000000) (show 1≤nm c d by omega) hs0 hs (by omega) p1_ hcs;have k2:=cyQ (A:=3000000000) (show 1≤nm c d by omega) hs0 hs (by omega) p1_ hds;have k3:=cyQ (A:=3000000000) (show 1≤nm c d by omega) hs0 hs (by omega) p2_ hcs;have k4:=cyQ (A:=3000000000) (show 1≤nm c d by omega) hs0 hs (by omega) p2_ hds;unfold Bnd q1 q2
 omega
theorem cyDp {a b c d:Int} (ha:Big a) (hb:Big b) (hc:Sml c) (hd:Sml d):(-300000000000000≤dp a b c d∧dp a b c d≤300000000000000)∧(-300000000000000≤dq a b c d∧dq a b c d≤300000000000000):=by
 unfold Big at ha hb;unfold Sml at hc hd;have x1_:=mul_bd ha hc;have x2_:=mul_bd ha hd;have x3_:=mul_bd hb hc;have x4_:=mul_bd hb hd;have e1:dp a b c d=a*c - a*d+b*d:=by unfold dp;grind
 have e2:dq a b c d=b*c - a*d:=by unfold dq;grind
 omega
theorem cyDivide (n m a b c d:Int) (ha:Big a) (hb:Big b) (hc:Sml c) (hd:Sml d) (h:¬(c=0∧d=0)):spec_l09Divide.f n [a,b] m [c,d]=some (3,[q1 a b c d,q2 a b c d],3,[r1 a b c d,r2 a b c d]):=by
 have h1:=nm_pos h;have h2:=nm_le2 hc hd;have h3:=cyDp ha hb hc hd;have h4:=cyProd ha hb hc hd h;have b4:=h4;unfold Bnd at b4;unfold Big at ha hb;unfold Sml at hc hd;unfold spec_l09Divide.f;rw [l09Norm m c d (by omega) (by omega),Option.bind_some,if_pos (by simp),if_pos (by simp)];simp only [rd,Int.toNat_zero,Int.toNat_one,List.getD_cons_zero,List.getD_cons_succ,spec_l09Of.f,Option.bind_some];rw [w64 (x:=c - d) (by omega) (by omega),w64 (x:=-d) (by omega) (by omega),times9 n 3 a b (c - d) (-d) (by omega) (by omega) (by omega) (by omega),Option.bind_some,if_pos (by simp)];simp only [List.getD_cons_zero,List.getD_cons_succ];rw [show c*c - c*d+d*d=nm c d from rfl,show a*(c - d) - b*(-d)=dp a b c d from rfl,show a*(-d)+b*(c - d) - b*(-d)=dq a b c d from rfl];rw [w64 (x:=2*dp a b c d) (by omega) (by omega),w64 (x:=2*dp a b c d+nm c d) (by omega) (by omega),w64 (x:=2*nm c d) (by omega) (by omega),cyFloor _ _ (by omega) (by omega),Option.bind_some,if_pos (by simp)];rw [w64 (x:=2*dq a b c d) (by omega) (by omega),w64 (x:=2*dq a b c d+nm c d) (by omega) (by omega),cyFloor _ _ (by omega) (by omega),Option.bind_some];rw [show(2*dp a b c d+nm c d) / (2*nm c d)=q1 a b c d from rfl,show(2*dq a b c d+nm c d) / (2*nm c d)=q2 a b c d from rfl];rw [cyTimes 3 m _ _ c d h4.1.1 h4.2.2 h4.1.2 h4.2.1,Option.bind_some,if_pos (by simp),if_pos (by simp),if_pos (by simp),if_pos (by simp)];simp only [List.getD_cons_zero,List.getD_cons_succ];rw [w64 (x:=a - (q1 a b c d*c - q2 a b c d*d)) (by omega) (by omega),w64 (x:=b - (q1 a b c d*d+q2 a b c d*c - q2 a b c d*d)) (by omega) (by omega)];rfl
theorem cyOver (a b c d:Int) (ha:Big a) (hb:Big b) (hc:Sml c) (hd:Sml d) (h:¬(c=0∧d=0)):impl_cubic_over.f a b c d=some (q1 a b c d,q2 a b c d,r1 a b c d,r2 a b c d):=by
 have h1:=nm_pos h;have h2:=nm_le2 hc hd;have h3:=cyDp ha hb hc hd;have h4:=cyProd ha hb hc hd h;have b4:=h4;unfold Bnd at b4;unfold Big at ha hb;unfold Sml at hc hd;unfold impl_cubic_over.f impl_cubic_conjugate.f;rw [inorm9 c d hc hd,Option.bind_some,Option.bind_some];simp only [];rw [w64 (x:=c - d) (by omega) (by omega),w64 (x:=-d) (by omega) (by omega),itimes9 a b (c - d) (-d) (by omega) (by omega) (by omega) (by omega),Option.bind_some];simp only [];rw [show a*(c - d) - b*(-d)=dp a b c d from rfl,show a*(-d)+b*(c - d) - b*(-d)=dq a b c d from rfl];rw [w64 (x:=2*dp a b c d) (by omega) (by omega),w64 (x:=2*dp a b c d+nm c d) (by omega) (by omega),w64 (x:=2*nm c d) (by omega) (by omega),cyDown _ _ (by omega) (by omega) (by omega),Option.bind_some];rw [w64 (x:=2*dq a b c d) (by omega) (by omega),w64 (x:=2*dq a b c d+nm c d) (by omega) (by omega),cyDown _ _ (by omega) (by omega) (by omega),Option.bind_some];rw [show(2*dp a b c d+nm c d) / (2*nm c d)=q1 a b c d from rfl,show(2*dq a b c d+nm c d) / (2*nm c d)=q2 a b c d from rfl];rw [cyTimesI _ _ c d h4.1.1 h4.2.2 h4.1.2 h4.2.1,Option.bind_some];unfold impl_cubic_less.f;rw [Option.bind_some];simp only [];rw [w64 (x:=a - (q1 a b c d*c - q2 a b c d*d)) (by omega) (by omega),w64 (x:=b - (q1 a b c d*d+q2 a b c d*c - q2 a b c d*d)) (by omega) (by omega)];rfl
theorem cyRest {a b a' b' c d x y:Int} (h:¬(c=0∧d=0)) (h1:a'=a+(c*x - d*y)) (h2:b'=b+(c*y+d*x - d*y)):r1 a' b' c d=r1 a b c d∧r2 a' b' c d=r2 a b c d:=by
 have hn:=nm_pos h;have e1:dp a' b' c d=dp a b c d+nm c d*x:=by unfold dp nm;rw [h1,h2];grind
 have e2:dq a' b' c d=dq a b c d+nm c d*y:=by unfold dq nm;rw [h1,h2];grind
 have f1:q1 a' b' c d=q1 a b c d+x:=by
  unfold q1;rw [e1,show 2*(dp a b c d+nm c d*x)+nm c d=2*dp a b c d+nm c d+(2*nm c d)*x by grind,Int.add_mul_ediv_left _ _ (by omega)]
 have f2:q2 a' b' c d=q2 a b c d+y:=by
  unfold q2;rw [e2,show 2*(dq a b c d+nm c d*y)+nm c d=2*dq a b c d+nm c d+(2*nm c d)*y by grind,Int.add_mul_ediv_left _ _ (by omega)]
 unfold r1 r2;rw [f1,f2,h1,h2]
 constructor <;> grind
def LD (n q:Int):Prop:=2≤q∧q ∣ n∧∀d,2≤d→d<q→¬d ∣ n
theorem cyDvd {n d:Int} (hn:0≤n):Int.tmod n d=0↔d ∣ n:=by
 constructor
 ·intro h;exact Int.dvd_of_tmod_eq_zero h
 ·intro h;exact Int.tmod_eq_zero_of_dvd h
theorem cyNo {n:Int} (hn:2≤n) (d:Int) (hd:2≤d) (hs:n<d*d) (h:∀e,2≤e→e<d→¬e ∣ n):LD n n:=by
 refine⟨hn,⟨1,by omega⟩,fun e he hen hdv=>?_⟩;obtain⟨c,hc⟩:=hdv
 by_cases h1:e<d
 ·exact h e he h1 ⟨c,hc⟩
 ·have c2:2≤c:=by
   by_cases hh:c≤0
   ·have:=Int.mul_nonneg (show 0≤e by omega) (show 0≤-c by omega);have e3:e* -c=-(e*c):=by grind
    omega
   ·by_cases h2:c=1
    ·subst h2;omega
    ·omega
  have c3:c<d:=by
   by_cases hh:c<d
   ·exact hh
   ·have m1:d*d≤e*c:=Int.mul_le_mul (by omega) (by omega) (by omega) (by omega)
    omega
  exact h c c2 c3 ⟨e,by rw [hc,Int.mul_comm]⟩
theorem cyLeast (n:Int) (hn:2≤n) (hn2:n≤1000000000):∃q,Ev (fun k=>spec_l09Least.f k n) q∧LD n q:=by
 have key:∀(m:Nat) (d:Int),d+m=40000→2≤d→(∀e,2≤e→e<d→¬e ∣ n)→∃q,Ev (fun k=>spec_l09Least.l0 k n d) q∧LD n q:=by
  intro m
  induction m with
  |zero=>
   intro d hd h2 h;have:d=40000:=by omega
   subst this;refine⟨n,Ev.step (f:=fun _=>some n) (fun k=>?_) (Ev.now _),cyNo hn 40000 (by omega) (by omega) h⟩;simp only [spec_l09Least.l0];rw [w64 (x:=40000*40000) (by omega) (by omega),if_neg (by omega)]
  |succ m ih=>
   intro d hd h2 h;have hdd:d*d≤40000*40000:=Int.mul_le_mul (by omega) (by omega) (by omega) (by omega);have hd0:0≤d*d:=Int.mul_nonneg (by omega) (by omega)
   by_cases c:d*d≤n
   ·by_cases c2:d ∣ n
    ·refine⟨d,Ev.step (f:=fun _=>some d) (fun k=>?_) (Ev.now _),h2,c2,h⟩;simp only [spec_l09Least.l0];rw [w64 (x:=d*d) (by omega) (by omega),if_pos c,if_neg (by omega),if_pos ((cyDvd (by omega)).mpr c2)]
    ·obtain⟨q,H,r⟩:=ih (d+1) (by omega) (by omega) (fun e he hlt=>by
      by_cases c3:e=d
      ·subst c3;exact c2
      ·exact h e he (by omega))
     refine⟨q,Ev.step (fun k=>?_) H,r⟩;simp only [spec_l09Least.l0];rw [w64 (x:=d*d) (by omega) (by omega),if_pos c,if_neg (by omega),if_neg (fun hh=>c2 ((cyDvd (by omega)).mp hh)),w64 (x:=d+1) (by omega) (by omega)]
   ·refine⟨n,Ev.step (f:=fun _=>some n) (fun k=>?_) (Ev.now _),cyNo hn d h2 (by omega) h⟩;simp only [spec_l09Least.l0];rw [w64 (x:=d*d) (by omega) (by omega),if_neg c]
 exact key 39998 2 (by omega) (by omega) (fun e h1 h2=>by omega)
theorem cyRestF:∀(m:Nat) (d n:Int) (ls:List Int),d+m=40000→2≤d→1≤n→n≤1000000000→(ls.length:Int)<d+5→∃L,Ev (fun k=>impl_factorsOf.l0 k n ls d) (ls ++ L):=by
 intro m
 induction m with
 |zero=>
  intro d n ls hd h2 hn hn2 hls;have:d=40000:=by omega
  subst this
  by_cases c:n > 1
  ·refine⟨[n],Ev.step (f:=fun _=>some (ls ++ [n])) (fun k=>?_) (Ev.now _)⟩;simp only [impl_factorsOf.l0];rw [w64 (x:=40000*40000) (by omega) (by omega),if_neg (by omega),if_pos c,if_pos (by omega)]
  ·refine⟨[],Ev.step (f:=fun _=>some (ls ++ [])) (fun k=>?_) (Ev.now _)⟩;simp only [impl_factorsOf.l0];rw [w64 (x:=40000*40000) (by omega) (by omega),if_neg (by omega),if_neg c,List.append_nil]
 |succ m ih=>
  intro d n ls hd h2 hn hn2 hls;have hdd:d*d≤40000*40000:=Int.mul_le_mul (by omega) (by omega) (by omega) (by omega);have hd0:0≤d*d:=Int.mul_nonneg (by omega) (by omega);have strip:∀(t:Nat) (x:Int) (ls:List Int),1≤x→x≤1000000000→x≤t→(ls.length:Int)<d+6→∃L,Ev (fun k=>impl_factorsOf.l1 k x ls d) (ls ++ L):=by
   intro t
   induction t with
   |zero=>intro x ls h1 _ h3 _;omega
   |succ t iht=>
    intro x ls h1 h3 h4 h5
    by_cases c:Int.tmod x d=0
    ·obtain⟨y,hy⟩:=(cyDvd (by omega)).mp c;have hy0:1≤y:=by
      by_cases hh:1≤y
      ·exact hh
      ·have:=Int.mul_nonneg (show 0≤d by omega) (show 0≤-y by omega);have e3:d* -y=-(d*y):=by grind
       omega
     have hy1:2*y≤d*y:=Int.mul_le_mul_of_nonneg_right h2 (by omega);have e:Int.tdiv x d=y:=by rw [hy];exact Int.mul_tdiv_cancel_left _ (by omega)
     obtain⟨L,H⟩:=iht y ls hy0 (by omega) (by omega) h5;refine⟨L,Ev.step (fun k=>?_) H⟩;simp only [impl_factorsOf.l1];rw [if_neg (by omega),if_pos c,e,w64 (x:=y) (by omega) (by omega)]
    ·obtain⟨L,H⟩:=ih (d+1) x ls (by omega) (by omega) h1 h3 (by omega);refine⟨L,Ev.step (fun k=>?_) H⟩;simp only [impl_factorsOf.l1];rw [if_neg (by omega),if_neg c,w64 (x:=d+1) (by omega) (by omega)]
  by_cases c:d*d≤n
  ·by_cases c2:Int.tmod n d=0
   ·obtain⟨L,H⟩:=strip n.toNat n (ls ++ [d]) hn hn2 (by omega) (by rw [List.length_append];simp;omega);refine⟨d::L,Ev.step (f:=fun k=>impl_factorsOf.j1 k n (ls ++ [d]) d) (fun k=>?_) (Ev.step (f:=fun k=>impl_factorsOf.l1 k n (ls ++ [d]) d) (fun k=>by simp only [impl_factorsOf.j1]) ?_)⟩
    ·simp only [impl_factorsOf.l0];rw [w64 (x:=d*d) (by omega) (by omega),if_pos c,if_neg (by omega),if_pos c2,if_pos (by omega)]
    ·rw [List.append_assoc] at H;exact H
   ·obtain⟨L,H⟩:=strip n.toNat n ls hn hn2 (by omega) (by omega);refine⟨L,Ev.step (f:=fun k=>impl_factorsOf.j1 k n ls d) (fun k=>?_) (Ev.step (f:=fun k=>impl_factorsOf.l1 k n ls d) (fun k=>by simp only [impl_factorsOf.j1]) H)⟩;simp only [impl_factorsOf.l0];rw [w64 (x:=d*d) (by omega) (by omega),if_pos c,if_neg (by omega),if_neg c2]
  ·by_cases c3:n > 1
   ·refine⟨[n],Ev.step (f:=fun _=>some (ls ++ [n])) (fun k=>?_) (Ev.now _)⟩;simp only [impl_factorsOf.l0];rw [w64 (x:=d*d) (by omega) (by omega),if_neg c,if_pos c3,if_pos (by omega)]
   ·refine⟨[],Ev.step (f:=fun _=>some (ls ++ [])) (fun k=>?_) (Ev.now _)⟩;simp only [impl_factorsOf.l0];rw [w64 (x:=d*d) (by omega) (by omega),if_neg c,if_neg c3,List.append_nil]
theorem cyStrip (m:Nat) (d:Int) (hd:d+1+m=40000) (h2:2≤d):∀(t:Nat) (x:Int) (ls:List Int),1≤x→x≤1000000000→x≤t→(ls.length:Int)<d+6→∃L,Ev (fun k=>impl_factorsOf.l1 k x ls d) (ls ++ L):=by
 intro t
 induction t with
 |zero=>intro x ls h1 _ h3 _;omega
 |succ t iht=>
  intro x ls h1 h3 h4 h5
  by_cases c:Int.tmod x d=0
  ·obtain⟨y,hy⟩:=(cyDvd (by omega)).mp c;have hy0:1≤y:=by
    by_cases hh:1≤y
    ·exact hh
    ·have:=Int.mul_nonneg (show 0≤d by omega) (show 0≤-y by omega);have e3:d* -y=-(d*y):=by grind
     omega
   have hy1:2*y≤d*y:=Int.mul_le_mul_of_nonneg_right h2 (by omega);have e:Int.tdiv x d=y:=by rw [hy];exact Int.mul_tdiv_cancel_left _ (by omega)
   obtain⟨L,H⟩:=iht y ls hy0 (by omega) (by omega) h5;refine⟨L,Ev.step (fun k=>?_) H⟩;simp only [impl_factorsOf.l1];rw [if_neg (by omega),if_pos c,e,w64 (x:=y) (by omega) (by omega)]
  ·obtain⟨L,H⟩:=cyRestF m (d+1) x ls hd (by omega) h1 h3 (by omega);refine⟨L,Ev.step (fun k=>?_) H⟩;simp only [impl_factorsOf.l1];rw [if_neg (by omega),if_neg c,w64 (x:=d+1) (by omega) (by omega)]
theorem cyFactors (n:Int) (hn:2≤n) (hn2:n≤1000000000):∃q L,Ev (fun k=>impl_factorsOf.f k n) (q::L)∧LD n q∧((n=q∨n=q*q)→L=[]):=by
 have key:∀(m:Nat) (d:Int),d+m=40000→2≤d→(∀e,2≤e→e<d→¬e ∣ n)→∃q L,Ev (fun k=>impl_factorsOf.l0 k n [] d) (q::L)∧LD n q∧((n=q∨n=q*q)→L=[]):=by
  intro m
  induction m with
  |zero=>
   intro d hd h2 h;have:d=40000:=by omega
   subst this;refine⟨n,[],Ev.step (f:=fun _=>some [n]) (fun k=>?_) (Ev.now _),cyNo hn 40000 (by omega) (by omega) h,fun _=>rfl⟩;simp only [impl_factorsOf.l0];rw [w64 (x:=40000*40000) (by omega) (by omega),if_neg (by omega),if_pos (by omega),if_pos (by simp)];rfl
  |succ m ih=>
   intro d hd h2 h;have hdd:d*d≤40000*40000:=Int.mul_le_mul (by omega) (by omega) (by omega) (by omega);have hd0:0≤d*d:=Int.mul_nonneg (by omega) (by omega)
   by_cases c:d*d≤n
   ·by_cases c2:d ∣ n
    ·have st1:∀k,impl_factorsOf.l0 (k+1) n [] d=impl_factorsOf.j1 k n [d] d:=by
      intro k;simp only [impl_factorsOf.l0];rw [w64 (x:=d*d) (by omega) (by omega),if_pos c,if_neg (by omega),if_pos ((cyDvd (by omega)).mpr c2),if_pos (by simp)];rfl
     by_cases sq:n=d*d
     ·refine⟨d,[],Ev.step (f:=fun k=>impl_factorsOf.j1 k n [d] d) st1 (Ev.step (f:=fun k=>impl_factorsOf.l1 k n [d] d) (fun k=>by simp only [impl_factorsOf.j1]) ?_),⟨h2,c2,h⟩,fun _=>rfl⟩;have t1:Int.tmod (d*d) d=0:=(cyDvd hd0).mpr ⟨d,rfl⟩;have t2:Int.tmod d d=0:=(cyDvd (by omega)).mpr ⟨1,by omega⟩;have t3:Int.tmod 1 d=1:=Int.tmod_eq_of_lt (by omega) (by omega);refine Ev.step (f:=fun k=>impl_factorsOf.l1 k d [d] d) (fun k=>?_) ?_
      ·simp only [impl_factorsOf.l1];rw [sq,if_neg (by omega),if_pos t1,Int.mul_tdiv_cancel_left _ (by omega),w64 (x:=d) (by omega) (by omega)]
      ·refine Ev.step (f:=fun k=>impl_factorsOf.l1 k 1 [d] d) (fun k=>?_) ?_
       ·simp only [impl_factorsOf.l1];rw [if_neg (by omega),if_pos t2,Int.tdiv_self (by omega),w64 (x:=1) (by omega) (by omega)]
       ·refine Ev.step (f:=fun k=>impl_factorsOf.l0 k 1 [d] (d+1)) (fun k=>?_) (Ev.step (f:=fun _=>some [d]) (fun k=>?_) (Ev.now _))
        ·simp only [impl_factorsOf.l1];rw [if_neg (by omega),if_neg (by omega),w64 (x:=d+1) (by omega) (by omega)]
        ·have e1:(d+1)*(d+1)=d*d+2*d+1:=by grind
         simp only [impl_factorsOf.l0];rw [w64 (x:=(d+1)*(d+1)) (by omega) (by omega),if_neg (by omega),if_neg (by omega)]
     ·obtain⟨L,H⟩:=cyStrip m d (by omega) h2 n.toNat n [d] (by omega) hn2 (by omega) (by simp;omega);refine⟨d,L,Ev.step (f:=fun k=>impl_factorsOf.j1 k n [d] d) st1 (Ev.step (f:=fun k=>impl_factorsOf.l1 k n [d] d) (fun k=>by simp only [impl_factorsOf.j1]) H),⟨h2,c2,h⟩,?_⟩;rintro(hh|hh)
      ·have:2*d≤d*d:=Int.mul_le_mul_of_nonneg_right h2 (by omega)
       omega
      ·exact absurd hh sq
    ·have nt:¬Int.tmod n d=0:=fun hh=>c2 ((cyDvd (by omega)).mp hh)
     obtain⟨q,L,H,r⟩:=ih (d+1) (by omega) (by omega) (fun e he hlt=>by
      by_cases c3:e=d
      ·subst c3;exact c2
      ·exact h e he (by omega))
     refine⟨q,L,Ev.step (f:=fun k=>impl_factorsOf.j1 k n [] d) (fun k=>?_) (Ev.step (f:=fun k=>impl_factorsOf.l1 k n [] d) (fun k=>by simp only [impl_factorsOf.j1]) (Ev.step (fun k=>?_) H)),r⟩
     ·simp only [impl_factorsOf.l0];rw [w64 (x:=d*d) (by omega) (by omega),if_pos c,if_neg (by omega),if_neg nt]
     ·simp only [impl_factorsOf.l1];rw [if_neg (by omega),if_neg nt,w64 (x:=d+1) (by omega) (by omega)]
   ·refine⟨n,[],Ev.step (f:=fun _=>some [n]) (fun k=>?_) (Ev.now _),cyNo hn d h2 (by omega) h,fun _=>rfl⟩;simp only [impl_factorsOf.l0];rw [w64 (x:=d*d) (by omega) (by omega),if_neg c,if_pos (by omega),if_pos (by simp)];rfl
 exact key 39998 2 (by omega) (by omega) (fun e h1 h2=>by omega)
theorem LD.uniq {n q r:Int} (h1:LD n q) (h2:LD n r):q=r:=by
 rcases Int.lt_trichotomy q r with h|h|h
 ·exact absurd h1.2.1 (h2.2.2 q h1.1 h)
 ·exact h
 ·exact absurd h2.2.1 (h1.2.2 r h2.1 h)
theorem cyPrime (m a b:Int) (ha:-10000≤a∧a≤10000) (hb:-10000≤b∧b≤10000):∃t:Bool,Ev (fun k=>impl_cubic_isPrime.f k a b) t∧Ev (fun k=>spec_l09Prime.f k m [a,b]) t∧(t=true→∃q,LD (nm a b) q∧(nm a b=q∨(q % 3=2∧nm a b=q*q))):=by
 have hle:=nm_le ha hb;have hnn:=nm_nn a b
 by_cases c:nm a b<2
 ·refine⟨false,?_,?_,fun h=>by cases h⟩
  ·unfold impl_cubic_isPrime.f;refine ev_bind_const (inorm9 a b (by omega) (by omega)) ?_;simp only [if_pos c];exact Ev.now _
  ·unfold spec_l09Prime.f;refine ev_bind_const (l09Norm m a b (by omega) (by omega)) ?_;rw [show a*a - a*b+b*b=nm a b from rfl];simp only [if_pos c];exact Ev.now _
 ·obtain⟨q,L,H,hq,hL⟩:=cyFactors (nm a b) (by omega) (by omega);obtain⟨q',H',hq'⟩:=cyLeast (nm a b) (by omega) (by omega);obtain rfl:=hq.uniq hq';have hq2:=hq.1;have hqn:q≤nm a b:=Int.le_of_dvd (by omega) hq.2.1;have tm:Int.tmod q 3=q % 3:=Int.tmod_eq_emod_of_nonneg (by omega);have wq:q*q=nm a b→wrap64 (q*q)=q*q:=fun h=>w64 (by omega) (by omega)
  have wn:wrap64 (q*q)=nm a b→q*q=nm a b:=by
   intro h;have h1:q*q≤nm a b*q:=Int.mul_le_mul_of_nonneg_right hqn (by omega);have h2:nm a b*q≤300000000*300000000:=Int.mul_le_mul hle (by omega) (by omega) (by omega);have h3:0≤q*q:=Int.mul_nonneg (by omega) (by omega);rw [w64 (by omega) (by omega)] at h;exact h
  refine⟨decide (q=nm a b) || (decide (q % 3=2) && decide (q*q=nm a b)),?_,?_,?_⟩
  ·unfold impl_cubic_isPrime.f;refine ev_bind_const (inorm9 a b (by omega) (by omega)) ?_;simp only [if_neg c];refine Ev.bind H ?_
   by_cases hl:L=[]
   ·subst hl;rw [show rd [q] 0=q from rfl];simp only [List.length_singleton,Int.ofNat_eq_natCast,if_pos (show((1:Nat):Int)=1 from rfl),if_pos (show(0:Int)<((1:Nat):Int) by decide),tm]
    by_cases c1:q=nm a b
    ·simp only [if_pos c1,decide_eq_true c1,Bool.true_or];exact Ev.now _
    ·simp only [if_neg c1,decide_eq_false c1,Bool.false_or]
     by_cases c2:q % 3=2
     ·simp only [if_pos c2,decide_eq_true c2,Bool.true_and]
      by_cases c3:q*q=nm a b
      ·rw [wq c3,decide_eq_true c3,beq_iff_eq.mpr c3];exact Ev.now _
      ·rw [decide_eq_false c3,beq_eq_false_iff_ne.mpr (fun h=>c3 (wn h))];exact Ev.now _
     ·simp only [if_neg c2,decide_eq_false c2,Bool.false_and];exact Ev.now _
   ·have n1:¬nm a b=q:=fun h=>hl (hL (.inl h))
    have n2:¬nm a b=q*q:=fun h=>hl (hL (.inr h))
    have hlen:¬(((q::L).length:Nat):Int)=1:=by
     intro h;apply hl;apply List.eq_nil_of_length_eq_zero;rw [List.length_cons] at h
     omega
    simp only [if_neg hlen];rw [decide_eq_false (fun h=>n1 h.symm),decide_eq_false (fun h:q*q=nm a b=>n2 h.symm),Bool.and_false,Bool.or_false];exact Ev.now _
  ·unfold spec_l09Prime.f;refine ev_bind_const (l09Norm m a b (by omega) (by omega)) ?_;rw [show a*a - a*b+b*b=nm a b from rfl];simp only [if_neg c];refine Ev.bind H' ?_;simp only [tm]
   by_cases c1:q=nm a b
   ·simp only [if_pos c1,decide_eq_true c1,Bool.true_or];exact Ev.now _
   ·simp only [if_neg c1,decide_eq_false c1,Bool.false_or]
    by_cases c2:q % 3=2
    ·simp only [if_pos c2,decide_eq_true c2,Bool.true_and]
     by_cases c3:q*q=nm a b
     ·rw [wq c3,decide_eq_true c3,beq_iff_eq.mpr c3];exact Ev.now _
     ·rw [decide_eq_false c3,beq_eq_false_iff_ne.mpr (fun h=>c3 (wn h))];exact Ev.now _
    ·simp only [if_neg c2,decide_eq_false c2,Bool.false_and];exact Ev.now _
  ·intro h;simp only [Bool.or_eq_true,Bool.and_eq_true,decide_eq_true_eq] at h
   rcases h with h|⟨h1,h2⟩
   ·exact⟨q,hq,.inl h.symm⟩
   ·exact⟨q,hq,.inr ⟨h1,h2.symm⟩⟩
theorem cyRS {a b c d:Int} (h:¬(c=0∧d=0)) (hn:nm c d≤300000000):Sml (r1 a b c d)∧Sml (r2 a b c d):=by
 have h1:=nm_rest (a:=a) (b:=b) h;exact nm_bd (by omega)
theorem cyMB {a b u v:Int} (ha:Sml a) (hb:Sml b) (hu:Sml u) (hv_:Sml v):Big (a*u - b*v)∧Big (a*v+b*u - b*v):=by
 unfold Sml at ha hb hu hv_;have k1:=mul_bd ha hu;have k2:=mul_bd hb hv_;have k3:=mul_bd ha hv_;have k4:=mul_bd hb hu;unfold Big
 omega
theorem cyMul {a b u v c d:Int} (mm:Int) (ha:Sml a) (hb:Sml b) (hu:Sml u) (hv_:Sml v) (hc:Sml c) (hd:Sml d) (h:¬(c=0∧d=0)):
  (∃s t,(impl_cubic_times.f a b u v).bind (fun z=>impl_cubic_over.f z.1 z.2 c d)=some (s,t,r1 (a*u - b*v) (a*v+b*u - b*v) c d,r2 (a*u - b*v) (a*v+b*u - b*v) c d))∧
  (∃s,(spec_l09Times.f 3 [a,b] 3 [u,v]).bind (fun z=>spec_l09Divide.f z.1 z.2 mm [c,d])=some (3,s,3,[r1 (a*u - b*v) (a*v+b*u - b*v) c d,r2 (a*u - b*v) (a*v+b*u - b*v) c d])):=by
 have hB:=cyMB ha hb hu hv_;unfold Sml at ha hb hu hv_
 constructor
 ·rw [itimes9 a b u v (by omega) (by omega) (by omega) (by omega),Option.bind_some,cyOver _ _ c d hB.1 hB.2 hc hd h];exact⟨_,_,rfl⟩
 ·rw [times9 3 3 a b u v (by omega) (by omega) (by omega) (by omega),Option.bind_some,cyDivide 3 mm _ _ c d hB.1 hB.2 hc hd h];exact⟨_,rfl⟩
theorem cyDvR (a b c d:Int):Eis.Dv ⟨c,d⟩ ((⟨a,b⟩:Eis) - ⟨r1 a b c d,r2 a b c d⟩):=by
 refine⟨⟨q1 a b c d,q2 a b c d⟩,?_⟩;apply Eis.ext'
 ·simp only [Eis.sub_a,Eis.mul_a,r1]
  grind
 ·simp only [Eis.sub_b,Eis.mul_b,r2]
  grind
theorem cyZero {a b c d:Int} (h:¬(c=0∧d=0)):(r1 a b c d=0∧r2 a b c d=0)↔Eis.Dv ⟨c,d⟩ ⟨a,b⟩:=by
 constructor
 ·rintro⟨h1,h2⟩;have:=cyDvR a b c d;rw [h1,h2] at this;have e:(⟨a,b⟩:Eis) - ⟨0,0⟩=⟨a,b⟩:=by apply Eis.ext' <;> simp
  rwa [e] at this
 ·rintro⟨⟨x,y⟩,he⟩;have e1:a=0+(c*x - d*y):=by have:=congrArg Eis.a he;simp at this;omega
  have e2:b=0+(c*y+d*x - d*y):=by have:=congrArg Eis.b he;simp at this;omega
  have hr:=cyRest (a:=0) (b:=0) h e1 e2;have hn:=nm_pos h;have z1:q1 0 0 c d=0:=by
   unfold q1 dp;rw [Int.zero_mul,Int.zero_mul,show 2*((0:Int) - 0)+nm c d=nm c d by omega];exact Int.ediv_eq_zero_of_lt (by omega) (by omega)
  have z2:q2 0 0 c d=0:=by
   unfold q2 dq;rw [Int.zero_mul,Int.zero_mul,show 2*((0:Int)+0 - 0)+nm c d=nm c d by omega];exact Int.ediv_eq_zero_of_lt (by omega) (by omega)
  rw [hr.1,hr.2];unfold r1 r2;rw [z1,z2]
  constructor <;> simp
def cyEnd (k:Nat) (c d f1 f2:Int):Option (Int×Int):=impl_CubicSymbol.l1 k [⟨1,0⟩,⟨0,1⟩,⟨-1,-1⟩] 3 0 c d f1 f2
theorem cyPowc {m u v:Eis} (h:Eis.Dv m (u - v)):∀n:Nat,Eis.Dv m (u ^ n - v ^ n)
 |0=>⟨0,by rw [Eis.pow_z,Eis.pow_z];grind⟩
 |n+1=>by
  obtain⟨e,he⟩:=cyPowc h n;obtain⟨g,hg⟩:=h;refine⟨e*u+v ^ n*g,?_⟩;rw [Eis.pow_s,Eis.pow_s];have:u ^ n*u - v ^ n*v=(u ^ n - v ^ n)*u+v ^ n*(u - v):=by grind
  rw [this,he,hg]
  grind
theorem cySq (u:Eis) (n:Nat):u ^ (2*n)=(u*u) ^ n:=by
 rw [Eis.pow_m]
 congr 1
 show(1*u)*u=u*u
 grind
theorem cyOdd {m f o b O B:Eis} {n:Nat} (hn:n % 2=1) (hf:Eis.Dv m (f - O*B ^ (n / 2))) (hO:Eis.Dv m (o*b - O)) (hB:Eis.Dv m (b*b - B)):Eis.Dv m (f - o*b ^ n):=by
 obtain⟨w,hw⟩:=hf;obtain⟨g,hg⟩:=hO;obtain⟨e,he⟩:=cyPowc hB (n / 2);have:b ^ n=(b*b) ^ (n / 2)*b:=by rw [← cySq,← Eis.pow_s];congr 1;omega
 refine⟨w - O*e - g*(b*b) ^ (n / 2),?_⟩;rw [this]
 grind
theorem cyEven {m f o b B:Eis} {n:Nat} (hn:n % 2≠1) (hf:Eis.Dv m (f - o*B ^ (n / 2))) (hB:Eis.Dv m (b*b - B)):Eis.Dv m (f - o*b ^ n):=by
 obtain⟨w,hw⟩:=hf;obtain⟨e,he⟩:=cyPowc hB (n / 2);have:b ^ n=(b*b) ^ (n / 2):=by rw [← cySq];congr 1;omega
 refine⟨w - o*e,?_⟩;rw [this]
 grind
theorem cyPow {c d:Int} (mm:Int) (hc:Sml c) (hd:Sml d) (h:¬(c=0∧d=0)) (hn:nm c d≤300000000):∀(t n:Nat) (a1 a2 b1 b2 o1 o2 x y:Int),n≤t→n≤1000000000→(Sml a1∧Sml a2)→(Sml b1∧Sml b2)→(Sml o1∧Sml o2)→a1=b1+(c*x - d*y)→a2=b2+(c*y+d*x - d*y)→
  ∃f1 f2,(Sml f1∧Sml f2)∧(∀r,Ev (fun k=>cyEnd k c d f1 f2) r→Ev (fun k=>impl_CubicSymbol.l0 k (n:Int) a1 a2 c d o1 o2) r)∧(∀r,Ev (fun k=>spec_l09Symbol.l1 k 0 mm [c,d] 3 [f1,f2]) r→Ev (fun k=>spec_l09Symbol.l0 k (n:Int) mm [c,d] 3 [b1,b2] 3 [o1,o2]) r)∧Eis.Dv ⟨c,d⟩ ((⟨f1,f2⟩:Eis) - ⟨o1,o2⟩*(⟨b1,b2⟩:Eis) ^ n):=by
 intro t
 induction t with
 |zero=>
  intro n a1 a2 b1 b2 o1 o2 x y ht hn2 ha hb ho e1 e2;obtain rfl:n=0:=by omega
  refine⟨o1,o2,ho,fun r H=>Ev.step (fun k=>?_) H,fun r H=>Ev.step (fun k=>?_) H,⟨0,?_⟩⟩
  ·simp only [impl_CubicSymbol.l0];rfl
  ·simp only [spec_l09Symbol.l0];rfl
  ·rw [Eis.pow_z]
   grind
 |succ t ih=>
  intro n a1 a2 b1 b2 o1 o2 x y ht hn2 ha hb ho e1 e2
  by_cases h0:n=0
  ·subst h0;refine⟨o1,o2,ho,fun r H=>Ev.step (fun k=>?_) H,fun r H=>Ev.step (fun k=>?_) H,⟨0,?_⟩⟩
   ·simp only [impl_CubicSymbol.l0];rfl
   ·simp only [spec_l09Symbol.l0];rfl
   ·rw [Eis.pow_z]
    grind
  obtain⟨⟨s1,s2,ia⟩,_⟩:=cyMul mm ha.1 ha.2 ha.1 ha.2 hc hd h;obtain⟨_,⟨s3,sb⟩⟩:=cyMul mm hb.1 hb.2 hb.1 hb.2 hc hd h;obtain⟨⟨s4,s5,io⟩,_⟩:=cyMul mm ho.1 ho.2 ha.1 ha.2 hc hd h;obtain⟨_,⟨s6,so⟩⟩:=cyMul mm ho.1 ho.2 hb.1 hb.2 hc hd h;have ra:=cyRest (a:=b1*b1 - b2*b2) (b:=b1*b2+b2*b1 - b2*b2) (a':=a1*a1 - a2*a2) (b':=a1*a2+a2*a1 - a2*a2) (x:=x*(a1+b1) - y*(a2+b2)) (y:=x*(a2+b2)+y*(a1+b1) - y*(a2+b2)) h (by rw [e1,e2];grind) (by rw [e1,e2];grind);have ro:=cyRest (a:=o1*b1 - o2*b2) (b:=o1*b2+o2*b1 - o2*b2) (a':=o1*a1 - o2*a2) (b':=o1*a2+o2*a1 - o2*a2) (x:=x*o1 - y*o2) (y:=x*o2+y*o1 - y*o2) h (by rw [e1,e2];grind) (by rw [e1,e2];grind);rw [ra.1,ra.2] at ia;rw [ro.1,ro.2] at io;have dB:=cyDvR (b1*b1 - b2*b2) (b1*b2+b2*b1 - b2*b2) c d;have dO:=cyDvR (o1*b1 - o2*b2) (o1*b2+o2*b1 - o2*b2) c d;have SB:=cyRS (a:=b1*b1 - b2*b2) (b:=b1*b2+b2*b1 - b2*b2) h hn;have SO:=cyRS (a:=o1*b1 - o2*b2) (b:=o1*b2+o2*b1 - o2*b2) h hn;generalize r1 (b1*b1 - b2*b2) (b1*b2+b2*b1 - b2*b2) c d=B1 at *;generalize r2 (b1*b1 - b2*b2) (b1*b2+b2*b1 - b2*b2) c d=B2 at *;generalize r1 (o1*b1 - o2*b2) (o1*b2+o2*b1 - o2*b2) c d=O1 at *;generalize r2 (o1*b1 - o2*b2) (o1*b2+o2*b1 - o2*b2) c d=O2 at *;obtain⟨za,ia1,ia2⟩:=Option.bind_eq_some_iff.mp ia;obtain⟨zb,sb1,sb2⟩:=Option.bind_eq_some_iff.mp sb;obtain⟨zo,io1,io2⟩:=Option.bind_eq_some_iff.mp io;obtain⟨zp,so1,so2⟩:=Option.bind_eq_some_iff.mp so;have hh:wrap64 (Int.tdiv (n:Int) 2)=((n / 2:Nat):Int):=by rw [Int.tdiv_eq_ediv_of_nonneg (by omega),w64 (by omega) (by omega)];omega
  have hmod:Int.tmod (n:Int) 2=(n:Int) % 2:=Int.tmod_eq_emod_of_nonneg (by omega)
  by_cases c1:n % 2=1
  ·obtain⟨f1,f2,hf,I,S,⟨w,D⟩⟩:=ih (n / 2) B1 B2 B1 B2 O1 O2 0 0 (by omega) (by omega) SB SB SO (by omega) (by omega);refine⟨f1,f2,hf,fun r H=>Ev.step (fun k=>?_) (I r H),fun r H=>Ev.step (fun k=>?_) (S r H),?_⟩
   ·simp only [impl_CubicSymbol.l0];rw [if_pos (by omega),hmod,if_pos (by omega),io1,Option.bind_some,io2,Option.bind_some,ia1,Option.bind_some,ia2,Option.bind_some,hh]
   ·simp only [spec_l09Symbol.l0];rw [if_pos (by omega),hmod,if_pos (by omega),so1,Option.bind_some,so2,Option.bind_some,sb1,Option.bind_some,sb2,Option.bind_some,hh]
   ·exact cyOdd c1 ⟨w,D⟩ dO dB
  ·obtain⟨f1,f2,hf,I,S,⟨w,D⟩⟩:=ih (n / 2) B1 B2 B1 B2 o1 o2 0 0 (by omega) (by omega) SB SB ho (by omega) (by omega);refine⟨f1,f2,hf,fun r H=>Ev.step (fun k=>?_) (I r H),fun r H=>Ev.step (fun k=>?_) (S r H),?_⟩
   ·simp only [impl_CubicSymbol.l0];rw [if_pos (by omega),hmod,if_neg (by omega),ia1,Option.bind_some,ia2,Option.bind_some,hh]
   ·simp only [spec_l09Symbol.l0];rw [if_pos (by omega),hmod,if_neg (by omega),sb1,Option.bind_some,sb2,Option.bind_some,hh]
   ·exact cyEven c1 ⟨w,D⟩ dB
theorem cyIsOver {a b c d:Int} (ha:Big a) (hb:Big b) (hc:Sml c) (hd:Sml d) (h:¬(c=0∧d=0)):∃t:Bool,impl_cubic_isOver.f a b c d=some t∧(t=true↔Eis.Dv ⟨c,d⟩ ⟨a,b⟩):=by
 refine⟨_,by unfold impl_cubic_isOver.f;rw [cyOver a b c d ha hb hc hd h,Option.bind_some],?_⟩;rw [← cyZero h]
 simp
theorem cyDivided (n mm:Int) {a b c d:Int} (ha:Big a) (hb:Big b) (hc:Sml c) (hd:Sml d) (h:¬(c=0∧d=0)) (hn:nm c d≤300000000):∃t:Bool,spec_l09Divided.f n [a,b] mm [c,d]=some t∧(t=true↔Eis.Dv ⟨c,d⟩ ⟨a,b⟩):=by
 have hs:=cyRS (a:=a) (b:=b) h hn;unfold Sml at hs;refine⟨_,by unfold spec_l09Divided.f;rw [cyDivide n mm a b c d ha hb hc hd h,Option.bind_some,l09Norm 3 _ _ (by omega) (by omega),Option.bind_some],?_⟩;rw [← cyZero h,beq_iff_eq]
 constructor
 ·intro he
  by_cases z:r1 a b c d=0∧r2 a b c d=0
  ·exact z
  ·have:=nm_pos z;unfold nm at this
   omega
 ·rintro⟨z1,z2⟩;rw [z1,z2];rfl
theorem cyUnit0:Ev (fun k=>spec_l01Unit.f k 3 0) (3,[1,0]):=Ev.of (spec_l01Unit.mono 3 0) (show spec_l01Unit.f 400 3 0=some (3,[1,0]) by decide +kernel)
theorem cyUnit1:Ev (fun k=>spec_l01Unit.f k 3 1) (3,[0,1]):=Ev.of (spec_l01Unit.mono 3 1) (show spec_l01Unit.f 400 3 1=some (3,[0,1]) by decide +kernel)
theorem cyStepI (i u v:Int) (hi:(i=0∧u=1∧v=0)∨(i=1∧u=0∧v=1)∨(i=2∧u=-1∧v=-1)) {c d f1 f2:Int} (hf:Sml f1∧Sml f2) (t:Bool) (ht:impl_cubic_isOver.f (f1 - u) (f2 - v) c d=some t) (k:Nat):
  impl_CubicSymbol.l1 (k+1) [⟨1,0⟩,⟨0,1⟩,⟨-1,-1⟩] 3 i c d f1 f2=if t=true then some (i,0) else impl_CubicSymbol.l1 k [⟨1,0⟩,⟨0,1⟩,⟨-1,-1⟩] 3 (i+1) c d f1 f2:=by
 unfold Sml at hf;have hr:rd_T54 [⟨1,0⟩,⟨0,1⟩,⟨-1,-1⟩] i=⟨u,v⟩:=by
  rcases hi with ⟨rfl,rfl,rfl⟩|⟨rfl,rfl,rfl⟩|⟨rfl,rfl,rfl⟩ <;> rfl
 have hi3:(0≤i∧i<3)∧(-1≤u∧u≤1)∧(-1≤v∧v≤1):=by omega
 simp only [impl_CubicSymbol.l1];rw [if_pos hi3.1.2,if_pos hi3.1.1,if_pos (by simp only [List.length_cons,List.length_nil];omega),hr];unfold impl_cubic_less.f;rw [w64 (x:=f1 - u) (by omega) (by omega),w64 (x:=f2 - v) (by omega) (by omega),Option.bind_some];simp only [];rw [ht,Option.bind_some,w64 (x:=i+1) (by omega) (by omega)]
theorem cyStepS (i u v:Int) (hi:(i=0∧u=1∧v=0)∨(i=1∧u=0∧v=1)) (mm:Int) {c d f1 f2:Int} (hf:Sml f1∧Sml f2) (t:Bool) (ht:spec_l09Divided.f 3 [f1 - u,f2 - v] mm [c,d]=some t) {r:Int} (H:Ev (fun k=>if t=true then some i else spec_l09Symbol.l1 k (i+1) mm [c,d] 3 [f1,f2]) r):
  Ev (fun k=>spec_l09Symbol.l1 k i mm [c,d] 3 [f1,f2]) r:=by
 unfold Sml at hf;have hu:Ev (fun k=>spec_l01Unit.f k 3 i) (3,[u,v]):=by
  rcases hi with ⟨rfl,rfl,rfl⟩|⟨rfl,rfl,rfl⟩
  ·exact cyUnit0
  ·exact cyUnit1
 have hi3:(0≤i∧i<2)∧(-1≤u∧u≤1)∧(-1≤v∧v≤1):=by omega
 refine Ev.step (fun k=>by simp only [spec_l09Symbol.l1,if_pos hi3.1.2] <;> rfl) ?_;refine Ev.bind hu ?_;simp only [List.length_cons,List.length_nil];simp only [if_pos (show(0:Int)<((0+1+1:Nat):Int) by decide),if_pos (show(1:Int)<((0+1+1:Nat):Int) by decide),spec_l09Of.f,Option.bind_some];simp only [rd,Int.toNat_zero,Int.toNat_one,List.getD_cons_zero,List.getD_cons_succ];rw [w64 (x:=f1 - u) (by omega) (by omega),w64 (x:=f2 - v) (by omega) (by omega),ht,w64 (x:=i+1) (by omega) (by omega)];exact H
theorem cyEnds (mm:Int) {c d f1 f2:Int} (hc:Sml c) (hd:Sml d) (h:¬(c=0∧d=0)) (hn:nm c d≤300000000) (hf:Sml f1∧Sml f2)
  (hs:Eis.Dv ⟨c,d⟩ (⟨f1 - 1,f2 - 0⟩:Eis)∨Eis.Dv ⟨c,d⟩ (⟨f1 - 0,f2 - 1⟩:Eis)∨Eis.Dv ⟨c,d⟩ (⟨f1 - (-1),f2 - (-1)⟩:Eis)):
  ∃z,Ev (fun k=>cyEnd k c d f1 f2) (z,0)∧Ev (fun k=>spec_l09Symbol.l1 k 0 mm [c,d] 3 [f1,f2]) z:=by
 have hf2:=hf;unfold Sml at hf2;have big:∀u v:Int,(-1≤u∧u≤1)→(-1≤v∧v≤1)→Big (f1 - u)∧Big (f2 - v):=by
  intro u v hu hv_;unfold Big
  omega
 obtain⟨t0,i0,j0⟩:=cyIsOver (big 1 0 (by omega) (by omega)).1 (big 1 0 (by omega) (by omega)).2 hc hd h;obtain⟨t1,i1,j1⟩:=cyIsOver (big 0 1 (by omega) (by omega)).1 (big 0 1 (by omega) (by omega)).2 hc hd h;obtain⟨t2,i2,j2⟩:=cyIsOver (big (-1) (-1) (by omega) (by omega)).1 (big (-1) (-1) (by omega) (by omega)).2 hc hd h;obtain⟨s0,k0,l0⟩:=cyDivided 3 mm (big 1 0 (by omega) (by omega)).1 (big 1 0 (by omega) (by omega)).2 hc hd h hn;obtain⟨s1,k1,l1⟩:=cyDivided 3 mm (big 0 1 (by omega) (by omega)).1 (big 0 1 (by omega) (by omega)).2 hc hd h hn;obtain rfl:t0=s0:=Bool.eq_iff_iff.mpr (j0.trans l0.symm);obtain rfl:t1=s1:=Bool.eq_iff_iff.mpr (j1.trans l1.symm);have a0:=cyStepI 0 1 0 (.inl ⟨rfl,rfl,rfl⟩) hf t0 i0;have a1:=cyStepI 1 0 1 (.inr (.inl ⟨rfl,rfl,rfl⟩)) hf t1 i1;have a2:=cyStepI 2 (-1) (-1) (.inr (.inr ⟨rfl,rfl,rfl⟩)) hf t2 i2;unfold cyEnd;cases t0 with
 |true=>
  exact⟨0,Ev.step (fun k=>by rw [a0,if_pos rfl]) (Ev.now _),cyStepS 0 1 0 (.inl ⟨rfl,rfl,rfl⟩) mm hf true k0 (by simp only [if_true];exact Ev.now _)⟩
 |false=>
  cases t1 with
  |true=>
   refine⟨1,Ev.step (fun k=>by rw [a0,if_neg (by decide)]) (Ev.step (fun k=>by rw [show(0:Int)+1=1 from rfl,a1,if_pos rfl]) (Ev.now _)),cyStepS 0 1 0 (.inl ⟨rfl,rfl,rfl⟩) mm hf false k0 ?_⟩;simp only [Bool.false_eq_true,if_false];exact cyStepS 1 0 1 (.inr ⟨rfl,rfl,rfl⟩) mm hf true k1 (by simp only [if_true];exact Ev.now _)
  |false=>
   have ht2:t2=true:=by
    refine j2.mpr ?_
    rcases hs with hh|hh|hh
    ·exact absurd (j0.mpr hh) (by decide)
    ·exact absurd (j1.mpr hh) (by decide)
    ·exact hh
   subst ht2;refine⟨2,Ev.step (fun k=>by rw [a0,if_neg (by decide)]) (Ev.step (fun k=>by rw [show(0:Int)+1=1 from rfl,a1,if_neg (by decide)]) (Ev.step (fun k=>by rw [show(1:Int)+1=2 from rfl,a2,if_pos rfl]) (Ev.now _))),cyStepS 0 1 0 (.inl ⟨rfl,rfl,rfl⟩) mm hf false k0 ?_⟩;simp only [Bool.false_eq_true,if_false];refine cyStepS 1 0 1 (.inr ⟨rfl,rfl,rfl⟩) mm hf false k1 ?_;simp only [Bool.false_eq_true,if_false];exact Ev.step (fun k=>by simp only [spec_l09Symbol.l1] <;> rfl) (Ev.now _)
theorem cyPr {n q:Int} (h:LD n q) (hn:0≤n):∃Q N:Nat,q=Q∧n=N∧Eis.Pr Q:=by
 have h1:=h.1;obtain⟨Q,rfl⟩:=Int.eq_ofNat_of_zero_le (show 0≤q by omega);obtain⟨N,rfl⟩:=Int.eq_ofNat_of_zero_le hn;refine⟨Q,N,rfl,rfl,least_pr (n:=N) (by omega) (Int.natCast_dvd_natCast.mp h.2.1) (fun d h2 h3 hd=>?_)⟩;exact h.2.2 (d:Int) (by omega) (by omega) (Int.natCast_dvd_natCast.mpr hd)
theorem cyBoth {a b c d:Int} (ha:Sml a∧Sml b) (hc:Sml c) (hd:Sml d) (h:¬(c=0∧d=0)) (hn:nm c d≤300000000) (hp:∃q,LD (nm c d) q∧(nm c d=q∨(q % 3=2∧nm c d=q*q))) (h3:¬Int.tmod (nm c d) 3=0) (hz:¬Eis.Dv ⟨c,d⟩ ⟨a,b⟩):
  ∃z,Ev (fun k=>impl_CubicSymbol.l0 k (wrap64 (Int.tdiv (wrap64 (nm c d - 1)) 3)) a b c d 1 0) (z,0)∧Ev (fun k=>spec_l09Symbol.l0 k (wrap64 (Int.tdiv (wrap64 (nm c d - 1)) 3)) 3 [c,d] 3 [r1 a b c d,r2 a b c d] 3 [1,0]) z:=by
 have hpos:=nm_pos h;have hR:=cyRS (a:=a) (b:=b) h hn;have hD:=cyDvR a b c d;obtain⟨q,hq,hcase⟩:=hp;obtain⟨Q,N,rfl,hN,hQ⟩:=cyPr hq (by omega);have he:wrap64 (Int.tdiv (wrap64 (nm c d - 1)) 3)=(((N - 1) / 3:Nat):Int):=by
  rw [w64 (x:=nm c d - 1) (by omega) (by omega),Int.tdiv_eq_ediv_of_nonneg (by omega),w64 (by omega) (by omega)]
  omega
 have hm3:N % 3≠0:=by
  intro e;apply h3;rw [Int.tmod_eq_emod_of_nonneg (by omega)]
  omega
 have hz2:¬Eis.Dv ⟨c,d⟩ ⟨r1 a b c d,r2 a b c d⟩:=by
  rintro⟨u,hu⟩;obtain⟨v,hv_⟩:=hD;refine hz ⟨v+u,?_⟩;have:(⟨a,b⟩:Eis)=(⟨a,b⟩ - ⟨r1 a b c d,r2 a b c d⟩)+⟨r1 a b c d,r2 a b c d⟩:=by grind
  rw [this,hv_,hu]
  grind
 have hsy:=Eis.symbol (N:=N) (q:=Q) (m:=⟨c,d⟩) (by rw [← hN];rfl) hQ (by
  rcases hcase with e|⟨e1,e2⟩
  ·exact .inl (by omega)
  ·refine .inr ⟨by omega,?_⟩;rw [hN] at e2;exact_mod_cast e2) hm3 ⟨r1 a b c d,r2 a b c d⟩ hz2
 obtain⟨f1,f2,hf,I,S,⟨w,D⟩⟩:=cyPow (c:=c) (d:=d) 3 hc hd h hn ((N - 1) / 3) ((N - 1) / 3) a b (r1 a b c d) (r2 a b c d) 1 0 (q1 a b c d) (q2 a b c d) (by omega) (by omega) ha hR (by unfold Sml;omega) (by unfold r1;grind) (by unfold r2;grind);have hs:Eis.Dv ⟨c,d⟩ (⟨f1 - 1,f2 - 0⟩:Eis)∨Eis.Dv ⟨c,d⟩ (⟨f1 - 0,f2 - 1⟩:Eis)∨Eis.Dv ⟨c,d⟩ (⟨f1 - (-1),f2 - (-1)⟩:Eis):=by
  have go:∀u v:Int,Eis.Dv ⟨c,d⟩ ((⟨r1 a b c d,r2 a b c d⟩:Eis) ^ ((N - 1) / 3) - ⟨u,v⟩)→Eis.Dv ⟨c,d⟩ (⟨f1 - u,f2 - v⟩:Eis):=by
   rintro u v ⟨x,hx⟩;refine⟨w+x,?_⟩;have e1:(⟨f1 - u,f2 - v⟩:Eis)=⟨f1,f2⟩ - ⟨u,v⟩:=rfl;have e2:(⟨1,0⟩:Eis)=1:=rfl;rw [e1];rw [e2] at D
   grind
  rcases hsy with hh|hh|hh
  ·exact .inl (go 1 0 hh)
  ·exact .inr (.inl (go 0 1 hh))
  ·exact .inr (.inr (go (-1) (-1) hh))
 obtain⟨z,E1,E2⟩:=cyEnds 3 hc hd h hn hf hs;rw [he];exact⟨z,I _ E1,S _ E2⟩
theorem same_out (n:Int) (l:List Int) (n2:Int) (l2:List Int) (hl:l.length≤1048576) (hl2:l2.length≤1048576):∃o:Int×Int,Ev (fun k=>spec_CubicSymbol.f k n l n2 l2) o∧Ev (fun k=>impl_CubicSymbol.f k n l n2 l2) o:=by
 have hcode:=l09Code [⟨n,l⟩,⟨n2,l2⟩] (by simp [hl,hl2]) (by simp);have hof:=cubicsOf [⟨n,l⟩,⟨n2,l2⟩] (by simp);simp only [List.all_cons,List.all_nil,Bool.and_true,is9s] at hcode hof;cases hh:is9 n l && is9 n2 l2 with
 |false=>
  refine⟨(0,1),?_,?_⟩
  ·unfold spec_CubicSymbol.f;refine Ev.bind hcode ?_;simp only [hh,Bool.false_eq_true,if_false,if_neg (show ¬((1:Int)=0) by decide)];refine Ev.step (fun k=>by simp only [spec_CubicSymbol.j0,Bool.false_eq_true,if_false,if_neg (show ¬((1:Int)=0) by decide)] <;> rfl) ?_;exact Ev.now _
  ·unfold impl_CubicSymbol.f;refine Ev.bind hof ?_;simp only [hh,Bool.false_eq_true,if_false];exact Ev.now _
 |true=>
  have h2:=hh;rw [Bool.and_eq_true] at h2;obtain⟨rfl,a,b,rfl,ha⟩:=is9_form h2.1;obtain⟨rfl,c,d,rfl,hc⟩:=is9_form h2.2;have nc:=nm_le (a:=c) (b:=d) (by omega) (by omega);have sa:Sml a∧Sml b:=by unfold Sml;omega
  have sc:Sml c∧Sml d:=by unfold Sml;omega
  have bab:Big a∧Big b:=by unfold Big;omega
  obtain⟨t,ip,sp,hq⟩:=cyPrime 3 c d (by omega) (by omega);have impl_:∀r:Int×Int,Ev (fun k=>if t=true then (if Int.tmod (nm c d) 3=0 then some (0,5) else (impl_cubic_isOver.f a b c d).bind fun t442=>if t442=true then some (-1,0) else impl_CubicSymbol.l0 k (wrap64 (Int.tdiv (wrap64 (nm c d - 1)) 3)) a b c d 1 0) else some (0,5)) r→Ev (fun k=>impl_CubicSymbol.f k 3 [a,b] 3 [c,d]) r:=by
   intro r H;unfold impl_CubicSymbol.f;refine Ev.bind hof ?_;simp only [hh,if_true,List.map_cons,List.map_nil,pr9,rd,rd_T54,Int.toNat_zero,Int.toNat_one,List.getD_cons_zero,List.getD_cons_succ];simp only [if_pos (show(0:Int)<(([⟨a,b⟩,⟨c,d⟩]:List S54).length:Int) by simp),if_pos (show(1:Int)<(([⟨a,b⟩,⟨c,d⟩]:List S54).length:Int) by simp)];refine Ev.bind ip ?_;simp only [inorm9 c d sc.1 sc.2,Option.bind_some];exact H
  have spec_:∀r:Int×Int,Ev (fun k=>if t=true then (if Int.tmod (nm c d) 3=0 then some (0,5) else (spec_l09Symbol.f k 3 [a,b] 3 [c,d]).bind fun t349=>some (t349,0)) else some (0,5)) r→Ev (fun k=>spec_CubicSymbol.f k 3 [a,b] 3 [c,d]) r:=by
   intro r H;unfold spec_CubicSymbol.f;refine Ev.bind hcode ?_;simp only [hh,if_true];refine Ev.bind sp ?_;cases t with
   |false=>
    simp only [Bool.false_eq_true,if_false] at H ⊢;refine Ev.step (fun k=>by simp only [spec_CubicSymbol.j0,if_true,if_neg (show ¬((5:Int)=0) by decide)] <;> rfl) H
   |true=>
    simp only [if_true] at H ⊢;refine ev_bind_const (l09Norm 3 c d (by omega) (by omega)) ?_;rw [show c*c - c*d+d*d=nm c d from rfl]
    by_cases z:Int.tmod (nm c d) 3=0
    ·simp only [if_pos z] at H;rw [show(Int.tmod (nm c d) 3==0)=true from beq_iff_eq.mpr z];refine Ev.step (fun k=>by simp only [spec_CubicSymbol.j0,if_true,if_neg (show ¬((5:Int)=0) by decide)] <;> rfl) H
    ·simp only [if_neg z] at H;rw [show(Int.tmod (nm c d) 3==0)=false from beq_eq_false_iff_ne.mpr z];refine Ev.step (fun k=>by simp only [spec_CubicSymbol.j0,Bool.false_eq_true,if_false,if_true] <;> rfl) H
  cases t with
  |false=>
   refine⟨(0,5),spec_ _ ?_,impl_ _ ?_⟩
   ·simp only [Bool.false_eq_true,if_false];exact Ev.now _
   ·simp only [Bool.false_eq_true,if_false];exact Ev.now _
  |true=>
   simp only [if_true] at impl_ spec_
   by_cases z:Int.tmod (nm c d) 3=0
   ·simp only [if_pos z] at impl_ spec_;exact⟨(0,5),spec_ _ (Ev.now _),impl_ _ (Ev.now _)⟩
   simp only [if_neg z] at impl_ spec_;have h0:¬(c=0∧d=0):=by
    rintro⟨rfl,rfl⟩;exact z rfl
   obtain⟨s,is,hj_⟩:=cyIsOver bab.1 bab.2 sc.1 sc.2 h0;simp only [is,Option.bind_some] at impl_;have hsym:∀r:Int,Ev (fun k=>if r1 a b c d*r1 a b c d - r1 a b c d*r2 a b c d+r2 a b c d*r2 a b c d=0 then some (-1) else spec_l09Symbol.l0 k (wrap64 (Int.tdiv (wrap64 (nm c d - 1)) 3)) 3 [c,d] 3 [r1 a b c d,r2 a b c d] 3 [1,0]) r→Ev (fun k=>spec_l09Symbol.f k 3 [a,b] 3 [c,d]) r:=by
    intro r H;have hR:=cyRS (a:=a) (b:=b) h0 nc;unfold Sml at hR;unfold spec_l09Symbol.f;refine ev_bind_const (cyDivide 3 3 a b c d bab.1 bab.2 sc.1 sc.2 h0) ?_;refine ev_bind_const (l09Norm 3 _ _ (by omega) (by omega)) ?_;simp only [spec_l09Of.f,Option.bind_some,l09Norm 3 c d (by omega) (by omega)];exact H
   have hzero:(r1 a b c d*r1 a b c d - r1 a b c d*r2 a b c d+r2 a b c d*r2 a b c d=0)↔Eis.Dv ⟨c,d⟩ ⟨a,b⟩:=norm0.trans (cyZero h0);cases s with
   |true=>
    have e:=hzero.mpr (hj_.mp rfl);simp only [if_true] at impl_;simp only [if_pos e] at hsym;exact⟨(-1,0),spec_ _ (Ev.bind (hsym _ (Ev.now _)) (Ev.now _)),impl_ _ (Ev.now _)⟩
   |false=>
    have hz:¬Eis.Dv ⟨c,d⟩ ⟨a,b⟩:=fun e=>by have:=hj_.mpr e;cases this
    have e:¬_:=fun e=>hz (hzero.mp e)
    simp only [Bool.false_eq_true,if_false] at impl_;simp only [if_neg e] at hsym;obtain⟨w,E1,E2⟩:=cyBoth sa sc.1 sc.2 h0 nc (hq rfl) z hz;exact⟨(w,0),spec_ _ (Ev.bind (hsym _ E2) (Ev.now _)),impl_ _ E1⟩
theorem FnExactCubicSymbol:laws_FnExactCubicSymbol.Pure:=by
 intro n l n2 l2 _ hm _ _ hm' _;apply Ev.rounds;have hm2:l.length≤9223372036854775807:=by simpa [maxLen] using hm
 have hm3:l2.length≤9223372036854775807:=by simpa [maxLen] using hm'
 unfold laws_FnExactCubicSymbol.f laws_szCyclo.f laws_szInt64S.f;rw [w64 (x:=(1048576:Int) - (l.length:Int)) (by omega) (by omega)]
 by_cases h1:(1048576:Int) - (l.length:Int)<0
 ·simp only [if_pos h1,Option.bind_some];exact Ev.now _
 simp only [if_neg h1,Option.bind_some];rw [w64 (x:=(1048576:Int) - (l.length:Int) - (l2.length:Int)) (by omega) (by omega)]
 by_cases h2:(1048576:Int) - (l.length:Int) - (l2.length:Int)<0
 ·simp only [if_pos h2,Option.bind_some];exact Ev.now _
 simp only [if_neg h2,Option.bind_some];have hl:l.length≤1048576:=by omega
 have hl2:l2.length≤1048576:=by omega
 obtain⟨⟨r,c⟩,hs,hi⟩:=same_out n l n2 l2 hl hl2;have a1:=toCyclo n l hl;have a2:=toCyclo n2 l2 hl2;refine Ev.bind a1 (Ev.bind a2 (Ev.bind hs (Ev.bind a1 (Ev.bind a2 (Ev.bind hi ?_)))));simp only [if_true,bne_self_eq_false];refine Ev.step (fun k=>by simp only [laws_FnExactCubicSymbol.j0,Bool.false_eq_true,if_false] <;> rfl) ?_;refine Ev.bind a1 (Ev.bind (eqCyclo _ _ _ _ hl) ?_);simp only [and_self,decide_true,if_true];refine Ev.bind a2 (Ev.bind (eqCyclo _ _ _ _ hl2) ?_);simp only [and_self,decide_true,if_true];exact Ev.now _
end Go.Proofs.Ytejpliodhnglbaa.Pure
-- MIN
