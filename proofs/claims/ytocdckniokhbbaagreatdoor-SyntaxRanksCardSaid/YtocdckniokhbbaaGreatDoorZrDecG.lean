import Derived.Test.YtocdckniokhbbaaGreatDoorProg
import Derived.Below
import Derived.Deep.Draws
import Derived.Deep.AppendLies
import Derived.Maps.AppendAt
import Derived.OwnWalk
import Derived.Laws.BytesArg
import Derived.Laws.MakeOwn
import Derived.Laws.OwnMore
import Derived.Deep.OwnRows
import Derived.Tactics
import Derived.Lib.ConvBytes
import Derived.Laws.Slices
import Derived.WalkKit
import Derived.KernelRfl
import Derived.RowKit3
import Derived.Deep.LoopGhost
import Derived.Deep.QuietTactic
import Derived.BigQuiet
import Derived.WideLaws
import Derived.Deep.DeepCutAuto
import Derived.Deep.CutBlock
import Derived.Deep.RegionHeld3
import Derived.Laws.Rows
import Derived.Lib.AppendStr
import Derived.ArgAppend
import Derived.Laws.IdiomCopy
import Derived.OrdersHeld
import Derived.Laws.BitsLemmas
import Derived.RowKit
import Derived.Test.YtocdckniokhbbaaGreatDoorZrPFx1
import Derived.RegionTactic
import Derived.ChangeAlike
import Derived.BigRegion
import Derived.Great.BuildSlice
import Derived.Deep.WholeRow
import Derived.Test.YtocdckniokhbbaaGreatDoorZrWWords
import Derived.Test.YtocdckniokhbbaaGreatDoorZrWLast
import Derived.Laws.StructEq
import Derived.Test.YtocdckniokhbbaaGreatDoorZrWMore
import Derived.Test.YtocdckniokhbbaaGreatDoorZrPFx10
import Derived.Test.YtocdckniokhbbaaGreatDoorZrPFx11
import Derived.Test.YtocdckniokhbbaaGreatDoorZrPFx12
import Derived.Test.YtocdckniokhbbaaGreatDoorZrPFx13
import Derived.Test.YtocdckniokhbbaaGreatDoorZrPFx14
import Derived.Laws.MathBits
import Derived.Laws.Bits64b
import Derived.Lib.ItoaNum
set_option linter.unusedVariables false
set_option linter.unusedSimpArgs false
open Go.IntKind renaming u64→Aj
open Int renaming tdiv→Bo
open Option renaming bind_some→Ay
namespace Go.Proofs.YtocdckniokhbbaaGreatDoor.DecA
open Go.RowKit PF YtocdckniokhbbaaGreatDoorW.PrintWords YtocdckniokhbbaaGreatDoorW.PrintLast YtocdckniokhbbaaGreatDoorW.PrintMore
theorem w64 {x:Int} (h: -9223372036854775808≤x) (h':x≤9223372036854775807):wrap64 x=x:=by unfold wrap64;omega
theorem u64 {x:Int} (h:0≤x) (h':x≤18446744073709551615):Aj.wrap x=x:=by
 simp [IntKind.wrap,IntKind.signed,IntKind.bits]<;>omega
end Go.Proofs.YtocdckniokhbbaaGreatDoor.DecA
namespace Go.Proofs.YtocdckniokhbbaaGreatDoor.DecB
open Go.RowKit PF YtocdckniokhbbaaGreatDoorW.PrintWords YtocdckniokhbbaaGreatDoorW.PrintLast YtocdckniokhbbaaGreatDoorW.PrintMore DecA
theorem qt3 {k n:Nat} (h:n<k):∃ m,k=m+1∧n≤m:=⟨k - 1,by omega,by omega⟩
end Go.Proofs.YtocdckniokhbbaaGreatDoor.DecB
namespace Go.Proofs.YtocdckniokhbbaaGreatDoor.DecD
open Go.RowKit PF YtocdckniokhbbaaGreatDoorW.PrintWords YtocdckniokhbbaaGreatDoorW.PrintLast YtocdckniokhbbaaGreatDoorW.PrintMore DecA DecB
theorem qs6 (n:Int):Aj.wrap n=n % 18446744073709551616:=by simp [IntKind.wrap,IntKind.signed,IntKind.bits]
theorem mul64_f (x y:Nat) (hx:x<18446744073709551616) (hy:y<18446744073709551616) :
  bits_Mul64.f x y=some (((x*y / 18446744073709551616:Nat):Int),((x*y % 18446744073709551616:Nat):Int)):=by
 unfold bits_Mul64.f;simp only [qs6];rw [and_low32 (x:Int) (by omega) (by omega),and_low32 (y:Int) (by omega) (by omega),and_low32 (_ % 18446744073709551616) (by omega) (by omega)];rw [mul64_arith (x:Int) (y:Int) (by omega) (by omega) (by omega) (by omega)];simp
theorem qi22 {n y q:Int} (hy:0<y) (h1:q*y≤n) (h2:n<q*y+y):n / y=q:=by
 have e:n=(n - q*y)+q*y:=by omega
 rw [e,Int.add_mul_ediv_right _ _ (by omega),Int.ediv_eq_zero_of_lt (by omega) (by omega)];omega
structure Step (y v1 v0 u u1 q r:Int):Prop where
 hv1:2147483648≤v1
 hv1':v1<4294967296
 hv0:0≤v0
 hv0':v0<4294967296
 hy:y=v1*4294967296+v0
 hu:0≤u
 huy:u<y
 hu1:0≤u1
 hu1':u1<4294967296
 hq:0≤q
 hqb:q≤4294967297
 hr:r=u - q*v1
 hr0:0≤r
 hrb:r<4294967296
 hup:u*4294967296+u1<q*y+y
theorem Step.qy {y v1 v0 u u1 q r:Int} (h:Step y v1 v0 u u1 q r):q*y=(q*v1)*4294967296+q*v0:=by rw [h.hy];grind
theorem Step.big {y v1 v0 u u1 q r:Int} (h:Step y v1 v0 u u1 q r) (hq:4294967296≤q∨q*v0>4294967296*r+u1):u*4294967296+u1<q*y:=by
 have h1:=h.qy;have h2:=h.hr;have h3:=h.huy;have h4:=h.hu1'
 rcases hq with hq | hq
 ·have:4294967296*y≤q*y:=Int.mul_le_mul_of_nonneg_right hq (by have:=h.hu;omega);omega
 ·generalize q*v1=P at *;generalize q*v0=S at *;omega
theorem Step.pos {y v1 v0 u u1 q r:Int} (h:Step y v1 v0 u u1 q r) (hq:u*4294967296+u1<q*y):1≤q:=by
 apply Decidable.byContradiction;intro hn;have:q=0:=by have:=h.hq;omega
 rw [this]at hq;have:=h.hu;have:=h.hu1;omega
theorem Step.done {y v1 v0 u u1 q r:Int} (h:Step y v1 v0 u u1 q r) (hq:¬ q*v0>4294967296*r+u1):(u*4294967296+u1) / y=q:=by
 have h1:=h.qy;have h2:=h.hr;have h3:=h.hup;refine qi22 (by have:=h.hu;have:=h.huy;omega) ?_ h3;generalize q*v1=P at *;generalize q*v0=S at *;omega
theorem Step.last {y v1 v0 u u1 q r:Int} (h:Step y v1 v0 u u1 q r) (hq:u*4294967296+u1<q*y) (hr:4294967296≤r+v1):(u*4294967296+u1) / y=q - 1:=by
 have h1:=h.qy;have h2:=h.hr;have hpos:=h.pos hq;have e:(q - 1)*y=q*y - y:=by rw [Int.sub_mul,Int.one_mul]
 have hs:(q - 1)*v0≤4294967296*4294967295:=Int.mul_le_mul (by have:=h.hqb;omega) (by have:=h.hv0';omega) h.hv0 (by omega);rw [Int.sub_mul,Int.one_mul]at hs;refine qi22 (by have:=h.hu;have:=h.huy;omega) ?_ (by omega);rw [e];have h4:=h.hy;have h5:=h.hu1;generalize q*v1=P at *;generalize q*v0=S at *;omega
theorem Step.next {y v1 v0 u u1 q r:Int} (h:Step y v1 v0 u u1 q r) (hq:u*4294967296+u1<q*y) (hr:¬ 4294967296≤r+v1):Step y v1 v0 u u1 (q - 1) (r+v1):=by
 have hpos:=h.pos hq;have e:(q - 1)*y=q*y - y:=by rw [Int.sub_mul,Int.one_mul]
 have e1:(q - 1)*v1=q*v1 - v1:=by rw [Int.sub_mul,Int.one_mul]
 exact⟨h.hv1,h.hv1',h.hv0,h.hv0',h.hy,h.hu,h.huy,h.hu1,h.hu1',by omega,by have:=h.hqb;omega,by rw [e1,h.hr];omega,by have:=h.hr0;have:=h.hv1;omega,by omega,by omega⟩
theorem Step.first {y v1 v0 u u1:Int} (hv1:2147483648≤v1) (hv1':v1<4294967296) (hv0:0≤v0) (hv0':v0<4294967296) (hy:y=v1*4294967296+v0)
  (hu:0≤u) (huy:u<y) (hu1:0≤u1) (hu1':u1<4294967296):Step y v1 v0 u u1 (u / v1) (u - u / v1*v1):=by
 have h1:=Int.ediv_mul_add_emod u v1;have h2:=Int.emod_nonneg u (show v1≠0 by omega);have h3:=Int.emod_lt_of_pos u (show 0<v1 by omega);have hq0:0≤u / v1:=Int.ediv_nonneg hu (by omega)
 have hqb:u / v1≤4294967297:=by
  have h4:u / v1<4294967298:=by
   apply Int.ediv_lt_of_lt_mul (by omega);omega
  omega
 have hqy:(u / v1)*y=(u / v1*v1)*4294967296+u / v1*v0:=by rw [hy];grind
 have hs:0≤u / v1*v0:=Int.mul_nonneg hq0 hv0;refine⟨hv1,hv1',hv0,hv0',hy,hu,huy,hu1,hu1',hq0,hqb,rfl,by omega,by omega,?_⟩;rw [hqy];generalize u / v1*v1=P at *;generalize u / v1*v0=S at *;omega
theorem Step.fits {y v1 v0 u u1 q r:Int} (h:Step y v1 v0 u u1 q r) (hq:q<4294967296):Aj.wrap (q*v0)=q*v0∧Aj.wrap (Aj.wrap (4294967296*r)+u1)=4294967296*r+u1:=by
 have hs:0≤q*v0:=Int.mul_nonneg h.hq h.hv0;have hs':q*v0≤4294967295*4294967295:=Int.mul_le_mul (by omega) (by have:=h.hv0';omega) h.hv0 (by omega);have h1:=h.hr0;have h2:=h.hrb;have h3:=h.hu1;have h4:=h.hu1';exact⟨u64 hs (by omega),by rw [u64 (x:=4294967296*r) (by omega) (by omega),u64 (by omega) (by omega)]⟩
theorem div_l0 {y v1 v0 u u1:Int} (x8 x14:Int):∀ (d:Nat) (q r:Int) (k:Nat),Step y v1 v0 u u1 q r→4294967296 - r≤d*2147483648→2*d<k →
  ∃ k',bits_Div64.l0 k y x8 v1 v0 u u1 x14 q r=bits_Div64.j2 k' y x8 v1 v0 u u1 x14 ((u*4294967296+u1) / y)∧k≤k'+2*d:=by
 intro d
 induction d with
 | zero=>intro q r k h hd _;have:=h.hrb;omega
 | succ d ih=>
  intro q r k h hd hk;obtain⟨k,rfl,_⟩:=qt3 (show 2*d+1<k by omega);obtain⟨k,rfl,_⟩:=qt3 (show 2*d<k by omega);have h1:=h.hr0;have h2:=h.hrb;have h3:=h.hv1;have h4:=h.hv1';have h5:=h.hqb;have h6:=h.hq
  have stop:¬ q*v0>4294967296*r+u1→bits_Div64.j1 (k+1) y x8 v1 v0 u u1 x14 q r false=bits_Div64.j2 k y x8 v1 v0 u u1 x14 ((u*4294967296+u1) / y):=by
   intro hn;simp only [bits_Div64.j1];rw [if_neg (by simp),h.done hn]
  have go:u*4294967296+u1<q*y→ ∃ k',bits_Div64.j1 (k+1) y x8 v1 v0 u u1 x14 q r true=bits_Div64.j2 k' y x8 v1 v0 u u1 x14 ((u*4294967296+u1) / y)∧k≤k'+2*d:=by
   intro hn;have hp:=h.pos hn;simp only [bits_Div64.j1];rw [if_pos trivial,u64 (x:=r+v1) (by omega) (by omega),u64 (x:=q - 1) (by omega) (by omega)];by_cases hr:4294967296≤r+v1
   ·rw [if_pos (by omega),h.last hn hr];exact⟨k,rfl,by omega⟩
   ·rw [if_neg (by omega)];obtain⟨k',e,hk'⟩:=ih (q - 1) (r+v1) k (h.next hn hr) (by omega) (by omega);exact⟨k',e,by omega⟩
  rw [bits_Div64.l0];by_cases hb:q≥4294967296
  ·rw [if_pos hb];obtain⟨k',e,hk'⟩:=go (h.big (.inl (by omega)));exact⟨k',e,by omega⟩
  ·rw [if_neg hb,(h.fits (by omega)).1,(h.fits (by omega)).2];by_cases hc:q*v0>4294967296*r+u1
   ·rw [decide_eq_true hc];obtain⟨k',e,hk'⟩:=go (h.big (.inr hc));exact⟨k',e,by omega⟩
   ·rw [decide_eq_false hc];exact⟨k,stop hc,by omega⟩
theorem div_l1 {y v1 v0 u u0:Int} (x8 x15 x17:Int) (h8:0≤x8):∀ (d:Nat) (q r:Int) (k:Nat),Step y v1 v0 u u0 q r→4294967296 - r≤d*2147483648→2*d<k →
  ∃ z,bits_Div64.l1 k y x8 v1 v0 u0 x15 r x17 q=some (Aj.wrap (Aj.wrap (x15*4294967296)+(u*4294967296+u0) / y),z):=by
 intro d
 induction d with
 | zero=>intro q r k h hd _;have:=h.hrb;omega
 | succ d ih=>
  intro q r k h hd hk;obtain⟨k,rfl,_⟩:=qt3 (show 2*d+1<k by omega);obtain⟨k,rfl,_⟩:=qt3 (show 2*d<k by omega);have h1:=h.hr0;have h2:=h.hrb;have h3:=h.hv1;have h4:=h.hv1';have h5:=h.hqb;have h6:=h.hq
  have stop:¬ q*v0>4294967296*r+u0→ ∃ z,bits_Div64.j4 (k+1) y x8 v1 v0 u0 x15 r x17 q false=some (Aj.wrap (Aj.wrap (x15*4294967296)+(u*4294967296+u0) / y),z):=by
   intro hn;simp only [bits_Div64.j4];rw [if_neg (by simp),if_pos h8,h.done hn];exact⟨_,rfl⟩
  have go:u*4294967296+u0<q*y→ ∃ z,bits_Div64.j4 (k+1) y x8 v1 v0 u0 x15 r x17 q true=some (Aj.wrap (Aj.wrap (x15*4294967296)+(u*4294967296+u0) / y),z):=by
   intro hn;have hp:=h.pos hn;simp only [bits_Div64.j4];rw [if_pos trivial,u64 (x:=r+v1) (by omega) (by omega),u64 (x:=q - 1) (by omega) (by omega)];by_cases hr:4294967296≤r+v1
   ·rw [if_pos (by omega),if_pos h8,h.last hn hr];exact⟨_,rfl⟩
   ·rw [if_neg (by omega)];exact ih (q - 1) (r+v1) k (h.next hn hr) (by omega) (by omega)
  rw [bits_Div64.l1];by_cases hb:q≥4294967296
  ·rw [if_pos hb];exact go (h.big (.inl (by omega)))
  ·rw [if_neg hb,(h.fits (by omega)).1,(h.fits (by omega)).2];by_cases hc:q*v0>4294967296*r+u0
   ·rw [decide_eq_true hc];exact go (h.big (.inr hc))
   ·rw [decide_eq_false hc];exact stop hc
theorem qv11 {n y b:Int} (hy:0<y) (h:n<b*y):n / y<b:=Int.ediv_lt_of_lt_mul hy h
theorem div_two {y v1 v0 u u1 u0:Int} (x8:Int) (h8:0≤x8) (k:Nat) (hk:20<k) (hv1:2147483648≤v1) (hv1':v1<4294967296) (hv0:0≤v0) (hv0':v0<4294967296) (hy:y=v1*4294967296+v0)
  (hu:0≤u) (huy:u<y) (hu1:0≤u1) (hu1':u1<4294967296) (hu0:0≤u0) (hu0':u0<4294967296) :
  ∃ z,bits_Div64.l0 k y x8 v1 v0 u u1 u0 (u / v1) (u - u / v1*v1)=some (((u*4294967296+u1)*4294967296+u0) / y,z):=by
 obtain⟨k',h1,h2⟩:=div_l0 x8 u0 2 (u / v1) (u - u / v1*v1) k (Step.first hv1 hv1' hv0 hv0' hy hu huy hu1 hu1') (by have:=(Step.first hv1 hv1' hv0 hv0' hy hu huy hu1 hu1').hr0;omega) (by omega);rw [h1];obtain⟨k',rfl,_⟩:=qt3 (show 10<k' by omega);have hy0:0<y:=by omega
 have hN:0≤u*4294967296+u1:=by omega
 have hdm:=Int.ediv_mul_add_emod (u*4294967296+u1) y;have hm0:=Int.emod_nonneg (u*4294967296+u1) (show y≠0 by omega);have hm1:=Int.emod_lt_of_pos (u*4294967296+u1) hy0;have hq0:0≤(u*4294967296+u1) / y:=Int.ediv_nonneg hN (by omega);have hq1:(u*4294967296+u1) / y<4294967296:=qv11 hy0 (by omega);simp only [bits_Div64.j2];rw [if_neg (by omega)]
 have e:Aj.wrap (Aj.wrap (Aj.wrap (u*4294967296)+u1) - Aj.wrap ((u*4294967296+u1) / y*y))=(u*4294967296+u1) % y:=by
  simp only [qs6];generalize (u*4294967296+u1) / y*y=Z at *;generalize (u*4294967296+u1) % y=m at *;omega
 rw [e];generalize hqq:(u*4294967296+u1) / y=Q at *;generalize hmm:(u*4294967296+u1) % y=m at *;have hf:=Step.first hv1 hv1' hv0 hv0' hy hm0 hm1 hu0 hu0'
 have e1:Aj.wrap (Bo m v1)=m / v1:=by
  rw [Int.tdiv_eq_ediv_of_nonneg hm0];exact u64 hf.hq (by have:=hf.hqb;omega)
 have e2:Aj.wrap (m - Aj.wrap (Aj.wrap (Bo m v1)*v1))=m - m / v1*v1:=by
  rw [e1];have h3:=hf.hr0;have h4:=hf.hrb;have h5:=Int.mul_nonneg hf.hq (show 0≤v1 by omega);rw [u64 (x:=m / v1*v1) h5 (by omega),u64 h3 (by omega)]
 rw [e2,e1];obtain⟨z,h6⟩:=div_l1 (y:=y) (v1:=v1) (v0:=v0) (u:=m) (u0:=u0) x8 Q m h8 2 _ _ k' hf (by have:=hf.hr0;omega) (by omega);refine⟨z,?_⟩;rw [h6];have hd1:0≤(m*4294967296+u0) / y:=Int.ediv_nonneg (by omega) (by omega);have hd2:(m*4294967296+u0) / y<4294967296:=qv11 hy0 (by omega)
 have hd3:((u*4294967296+u1)*4294967296+u0) / y=Q*4294967296+(m*4294967296+u0) / y:=by
  rw [← hdm,show(Q*y+m)*4294967296+u0=(m*4294967296+u0)+(Q*4294967296)*y by grind,Int.add_mul_ediv_right _ _ (by omega)];omega
 rw [hd3,u64 (x:=Q*4294967296) (by omega) (by omega),u64 (by omega) (by omega)]
theorem qd13 (x:Nat) (h0:x≠0) (h:x<18446744073709551616):1≤Lib.bitLen x∧Lib.bitLen x≤64∧2 ^ (Lib.bitLen x - 1)≤x∧x<2 ^ Lib.bitLen x:=by
 have:=Lib.bitLenAux_bounds 64 x (by simpa using h) h0;refine⟨this.1,?_,this.2.1,this.2.2⟩;apply Decidable.byContradiction;intro hn;have h1:2 ^ 64≤2 ^ (Lib.bitLen x - 1):=Nat.pow_le_pow_right (by omega) (by omega);have h2:=this.2.1;unfold Lib.bitLen at h1 hn;omega
theorem qc20 (x s:Nat) (hs:s≤64) (h:x*2 ^ s<18446744073709551616):shl .u64 (x:Int) (s:Int)=((x*2 ^ s:Nat):Int):=by
 unfold shl;have e:min (s:Int).toNat Aj.bits=s:=by simp [IntKind.bits];omega
 rw [e,u64]
 ·simp
 ·exact Int.mul_nonneg (by omega) (Int.pow_nonneg (by omega))
 ·have:((x*2 ^ s:Nat):Int)<18446744073709551616:=by omega
  simp at this;omega
theorem shl_mod (x s:Nat) (hs:s≤64):shl .u64 (x:Int) (s:Int)=((x*2 ^ s % 18446744073709551616:Nat):Int):=by
 unfold shl;have e:min (s:Int).toNat Aj.bits=s:=by simp [IntKind.bits];omega
 rw [e,qs6];simp
theorem shr_nat (x s:Nat) (hs:s≤64):shr .u64 (x:Int) (s:Int)=((x / 2 ^ s:Nat):Int):=by
 unfold shr;have e:min (s:Int).toNat Aj.bits=s:=by simp [IntKind.bits];omega
 rw [e];simp
theorem div64_f (hi lo y k:Nat) (hlo:lo<18446744073709551616) (hy:y<18446744073709551616) (hhy:hi<y) (hk:30<k) :
  ∃ z,bits_Div64.f k hi lo y=some ((((hi*18446744073709551616+lo) / y:Nat):Int),z):=by
 unfold bits_Div64.f;rw [if_neg (by omega),if_neg (by omega)];by_cases h0:hi=0
 ·subst h0;rw [if_pos (by rfl),Int.tdiv_eq_ediv_of_nonneg (by omega)];refine⟨Int.tmod lo y,?_⟩;rw [Nat.zero_mul,Nat.zero_add];have hle:lo / y≤lo:=Nat.div_le_self _ _;have e:(lo:Int) / (y:Int)=((lo / y:Nat):Int):=by simp
  rw [e];generalize lo / y=D at *;rw [u64 (by omega) (by omega)]
 ·rw [if_neg (by omega)];have hb:=qd13 y (by omega) hy;unfold bits_LeadingZeros64.f;rw [if_pos (by omega),Int.toNat_natCast];simp only [Ay];generalize Lib.bitLen y=b at *;obtain⟨hb1,hb2,hb3,hb4⟩:=hb;have e1:(64 - (b:Int))=((64 - b:Nat):Int):=by omega
  rw [e1,u64 (x:=((64 - b:Nat):Int)) (by omega) (by omega)];have e2:(64 - ((64 - b:Nat):Int))=(b:Int):=by omega
  rw [e2,u64 (x:=(b:Int)) (by omega) (by omega),if_pos (by omega),if_pos (by omega)];have hp:2 ^ (64 - b)*2 ^ b=18446744073709551616:=by rw [← Nat.pow_add,show 64 - b+b=64 by omega]
  have hp0:0<2 ^ (64 - b):=Nat.pow_pos (by omega);have hpb:0<2 ^ b:=Nat.pow_pos (by omega)
  have hyp:y*2 ^ (64 - b)<18446744073709551616:=by
   rw [← hp,Nat.mul_comm (2 ^ (64 - b)) (2 ^ b)];exact Nat.mul_lt_mul_of_pos_right hb4 hp0
  have hyl:9223372036854775808≤y*2 ^ (64 - b):=by
   have:2 ^ (b - 1)*2 ^ (64 - b)≤y*2 ^ (64 - b):=Nat.mul_le_mul_right _ hb3;rw [← Nat.pow_add,show b - 1+(64 - b)=63 by omega]at this;omega
  have hhp:hi*2 ^ (64 - b)<y*2 ^ (64 - b):=Nat.mul_lt_mul_of_pos_right hhy hp0;rw [qc20 y (64 - b) (by omega) hyp,qc20 hi (64 - b) (by omega) (by omega),shl_mod lo (64 - b) (by omega),shr_nat lo b (by omega)]
  have hsplit:hi*2 ^ (64 - b)+lo / 2 ^ b<18446744073709551616∧bits .or .u64 ((hi*2 ^ (64 - b):Nat):Int) ((lo / 2 ^ b:Nat):Int)=((hi*2 ^ (64 - b)+lo / 2 ^ b:Nat):Int)∧(hi*2 ^ (64 - b)+lo / 2 ^ b)*18446744073709551616+lo*2 ^ (64 - b) % 18446744073709551616=(hi*18446744073709551616+lo)*2 ^ (64 - b)∧hi*2 ^ (64 - b)+lo / 2 ^ b<y*2 ^ (64 - b):=by
   have hlt:lo / 2 ^ b<2 ^ (64 - b):=(Nat.div_lt_iff_lt_mul hpb).2 (by rw [hp];exact hlo)
   have hle:hi*2 ^ (64 - b)+2 ^ (64 - b)≤y*2 ^ (64 - b):=by
    have:(hi+1)*2 ^ (64 - b)≤y*2 ^ (64 - b):=Nat.mul_le_mul_right _ (by omega);rw [Nat.add_mul,Nat.one_mul]at this;exact this
   have hor:hi*2 ^ (64 - b) ||| lo / 2 ^ b=hi*2 ^ (64 - b)+lo / 2 ^ b:=by
    rw [Nat.mul_comm hi,Nat.two_pow_add_eq_or_of_lt hlt]
   refine⟨by omega,?_,?_,by omega⟩
   ·rw [bits_or_u64_nat _ _ (by omega) (by omega),hor]
   ·have e3:lo*2 ^ (64 - b) / 18446744073709551616=lo / 2 ^ b:=by
     rw [← hp,Nat.mul_comm lo,Nat.mul_div_mul_left _ _ hp0]
    have e4:=Nat.div_add_mod (lo*2 ^ (64 - b)) 18446744073709551616;rw [e3]at e4;generalize lo*2 ^ (64 - b) % 18446744073709551616=m at *;rw [Nat.add_mul (hi*18446744073709551616),← e4]
    grind
  obtain⟨hs1,hs2,hs3,hs4⟩:=hsplit;rw [hs2];have e5:(y:Int)*1=y:=by omega
  generalize hY:y*2 ^ (64 - b)=Y at *;generalize hU:hi*2 ^ (64 - b)+lo / 2 ^ b=U at *;generalize hL:lo*2 ^ (64 - b) % 18446744073709551616=L at *;have hLb:L<18446744073709551616:=by rw [← hL];exact Nat.mod_lt _ (by omega)
  rw [and_low32 (Y:Int) (by omega) (by omega),and_low32 (L:Int) (by omega) (by omega)];rw [if_neg (by omega)];have hq:0≤(U:Int) / ((Y:Int) / 4294967296):=Int.ediv_nonneg (by omega) (by omega);have hf:=Step.first (y:=Y) (v1:=(Y:Int) / 4294967296) (v0:=(Y:Int) % 4294967296) (u:=U) (u1:=(L:Int) / 4294967296) (by omega) (by omega) (by omega) (by omega) (by omega) (by omega) (by omega) (by omega) (by omega)
  have e6:Aj.wrap (Bo (U:Int) ((Y:Int) / 4294967296))=(U:Int) / ((Y:Int) / 4294967296):=by
   rw [Int.tdiv_eq_ediv_of_nonneg (by omega)];exact u64 hf.hq (by have:=hf.hqb;omega)
  have e7:Aj.wrap ((U:Int) - Aj.wrap (Aj.wrap (Bo (U:Int) ((Y:Int) / 4294967296))*((Y:Int) / 4294967296)))=(U:Int) - (U:Int) / ((Y:Int) / 4294967296)*((Y:Int) / 4294967296):=by
   rw [e6];have h3:=hf.hr0;have h4:=hf.hrb;have h5:=Int.mul_nonneg hf.hq (show 0≤(Y:Int) / 4294967296 by omega);rw [u64 (x:=(U:Int) / ((Y:Int) / 4294967296)*((Y:Int) / 4294967296)) h5 (by omega),u64 h3 (by omega)]
  rw [e7,e6];obtain⟨z,hz⟩:=div_two (y:=Y) (v1:=(Y:Int) / 4294967296) (v0:=(Y:Int) % 4294967296) (u:=U) (u1:=(L:Int) / 4294967296) (u0:=(L:Int) % 4294967296) ((64 - b:Nat):Int) (by omega) k (by omega) (by omega) (by omega) (by omega) (by omega) (by omega) (by omega) (by omega) (by omega) (by omega) (by omega) (by omega);refine⟨z,?_⟩;rw [hz];have e8:((U:Int)*4294967296+(L:Int) / 4294967296)*4294967296+(L:Int) % 4294967296=((U*18446744073709551616+L:Nat):Int):=by omega
  have e9:(hi*18446744073709551616+lo)*2 ^ (64 - b) / Y=(hi*18446744073709551616+lo) / y:=by
   rw [← hY,Nat.mul_div_mul_right _ _ hp0]
  rw [e8,hs3,← e9];simp
end Go.Proofs.YtocdckniokhbbaaGreatDoor.DecD
namespace Go.Proofs.YtocdckniokhbbaaGreatDoor.DecC
end Go.Proofs.YtocdckniokhbbaaGreatDoor.DecC
namespace Go.Proofs.YtocdckniokhbbaaGreatDoor.DecE
open Go.RowKit PF YtocdckniokhbbaaGreatDoorW.PrintWords YtocdckniokhbbaaGreatDoorW.PrintLast YtocdckniokhbbaaGreatDoorW.PrintMore DecA DecB DecC DecD
theorem bs {α β:Type} (a:α) (f:α→Option β):(some a).bind f=f a:=of_eq_true (eq_self (f a))
def I64 (v:Int):Prop:= -9223372036854775808≤v∧v≤9223372036854775807
def qr9 (a:Int × Int):Bool:=if a.1=0 then a.2 != -9223372036854775808 else(a.1 == 1 || a.1 == 2 || a.1 == 3) && a.2 == 0
def nrm (a:Int × Int):Int × Int:=if qr9 a=true then a else(1,0)
def Nm (a:Int × Int):Prop:=(a.1=0∧ -9223372036854775807≤a.2∧a.2≤9223372036854775807)∨((a.1=1∨a.1=2∨a.1=3)∧a.2=0)
def mk (b:Bool) (n:Int):Int × Int:=if n>9223372036854775807 then(if b then 3 else 2,0)else(0,if b then -n else n)
def sgn (a:Int × Int):Int:=if a.1=2∨a.2>0 then 1 else if a.1=3∨a.2<0 then -1 else 0
def qy21 (s:Int):Int × Int:=if s>0 then(2,0)else if s<0 then(3,0)else(1,0)
def ab (v:Int):Int:=if v<0 then -v else v
theorem qc17 {t v:Int} (h:I64 v):Nm (nrm (t,v)):=by
 unfold nrm Nm qr9;unfold I64 at h;by_cases c:t=0
 ·simp only [c,if_true];by_cases d:v= -9223372036854775808
  ·simp [d]
  ·simp [d];omega
 ·simp only [c,if_false];by_cases d:((t == 1 || t == 2 || t == 3) && v == 0)=true
  ·rw [if_pos d];simp at d ⊢;omega
  ·rw [if_neg d];simp
theorem qz24 {a:Int × Int} (h:Nm a):qr9 a=true:=by
 unfold Nm at h;unfold qr9
 rcases h with ⟨h1,h2,h3⟩ | ⟨h1 | h1 | h1,h2⟩
 ·rw [if_pos h1];simp;omega
 all_goals rw [if_neg (by omega)];simp [h1,h2]
theorem qx15 {a:Int × Int} (h:Nm a):nrm a=a:=if_pos (qz24 h)
theorem qg16 (t v:Int):dec_Right.f t v=some (qr9 (t,v)):=by
 unfold dec_Right.f qr9;by_cases h0:t=0
 ·simp [h0]
 ·by_cases h1:t=1
  ·simp [h1]
  ·by_cases h2:t=2
   ·simp [h2]
   ·by_cases h3:t=3
    ·simp [h3]
    ·simp [h0,h1,h2,h3]
theorem qe5 (t v:Int):dec_right.f t v=some (nrm (t,v)):=by
 unfold dec_right.f;rw [qg16];unfold nrm;by_cases h:qr9 (t,v)=true<;>simp [h,dec_nan.f]
theorem qt18 (a b:Int × Int):dec_none.f a.1 a.2 b.1 b.2=some (decide (a.1=1∨b.1=1)):=by
 unfold dec_none.f;by_cases h:a.1=1
 ·simp [h]
 ·simp only [h,if_false,false_or];congr 1
theorem qu16 {k:Nat} (hk:0<k) (a:Int × Int):dec_sign.f k a.1 a.2=some (sgn a):=by
 obtain⟨k,rfl,_⟩:=qt3 hk;unfold dec_sign.f sgn;simp only [dec_sign.j0];by_cases h:a.1=2
 ·simp [h]
 ·by_cases h2:a.2>0
  ·simp [h,h2]
  ·simp only [h,h2,if_false,decide_false,false_or];by_cases h3:a.1=3
   ·simp [h3]
   ·by_cases h4:a.2<0<;>simp [h3,h4]
theorem qw13 (a:Int × Int):sgn a=1∨sgn a=0∨sgn a= -1:=by
 unfold sgn;split
 ·exact .inl rfl
 ·split
  ·exact .inr (.inr rfl)
  ·exact .inr (.inl rfl)
theorem great_f {s:Int} (h:s=1∨s=0∨s= -1):dec_great.f s=some (qy21 s):=by
 rcases h with rfl | rfl | rfl<;>rfl
theorem qy6 (a b:Int × Int):sgn a*sgn b=1∨sgn a*sgn b=0∨sgn a*sgn b= -1:=by
 rcases qw13 a with h | h | h<;>rcases qw13 b with h' | h' | h'<;>simp [h,h']
theorem qh9 (a b:Int × Int):wrap64 (sgn a*sgn b)=sgn a*sgn b:=by
 have:=qy6 a b;exact w64 (by omega) (by omega)
theorem qb20 {t v:Int} (h: -9223372036854775807≤v∧v≤9223372036854775807):dec_size.f t v=some (ab v):=by
 unfold dec_size.f ab;by_cases c:v<0
 ·rw [if_pos c,if_pos c,w64 (by omega) (by omega),u64 (by omega) (by omega)]
 ·rw [if_neg c,if_neg c,u64 (by omega) (by omega)]
theorem qz22 {v:Int} (h: -9223372036854775807≤v∧v≤9223372036854775807):∃ n:Nat,ab v=n∧n≤9223372036854775807:=by
 unfold ab
 split
 ·exact⟨(-v).toNat,by omega,by omega⟩
 ·exact⟨v.toNat,by omega,by omega⟩
theorem qt16 {k:Nat} (hk:1<k) (b:Bool) {n:Int} (_h0:0≤n) (_h1:n<18446744073709551616):dec_signed.f k b false n=some (mk b n):=by
 obtain⟨k,rfl,_⟩:=qt3 (show 0<k by omega);obtain⟨k,rfl,_⟩:=qt3 (show 0<k by omega);unfold dec_signed.f mk;rw [if_neg (by simp)];by_cases h:n≤9223372036854775807
 ·rw [if_pos h,if_neg (by omega)];simp only [dec_signed.j0]
  cases b
  ·simp only [dec_signed.j1,h];simp [w64 (show -9223372036854775808≤n by omega) h]
  ·simp [w64 (show -9223372036854775808≤n by omega) h,w64 (show -9223372036854775808≤ -n by omega) (by omega)]
 ·rw [if_neg h,if_pos (by omega)];simp only [dec_signed.j0,dec_signed.j1,h]
  cases b<;>simp [dec_over.f,dec_under.f]
theorem qv13 {k:Nat} (hk:1<k) (b:Bool) (n:Int):dec_signed.f k b true n=some (if b then 3 else 2,0):=by
 obtain⟨k,rfl,_⟩:=qt3 (show 0<k by omega);obtain⟨k,rfl,_⟩:=qt3 (show 0<k by omega);unfold dec_signed.f;simp only [dec_signed.j0,dec_signed.j1]
 cases b<;>simp [dec_over.f,dec_under.f]
theorem qk21 {b:Bool} {n:Int} (h:n>9223372036854775807):mk b n=(if b then 3 else 2,0):=if_pos h
theorem e1m:((1000000:Nat):Int)=1000000:=by omega
def qd17 (a b:Int × Int):Int × Int:=
 if a.1=1∨b.1=1 then(1,0)else if a.1≠0∨b.1≠0 then qy21 (sgn a*sgn b)else mk (decide (sgn a*sgn b<0)) (ab a.2*ab b.2 / 1000000)
theorem Nm.num {a:Int × Int} (h:Nm a) (h0:a.1=0): -9223372036854775807≤a.2∧a.2≤9223372036854775807:=by
 rcases h with h | h
 ·exact h.2
 ·omega
theorem ql14 {x y:Nat} (hx:x≤9223372036854775807) (hy:y≤9223372036854775807):bits_Mul64.f x y=some (((x*y / 18446744073709551616:Nat):Int),((x*y % 18446744073709551616:Nat):Int)):=
 mul64_f x y (by omega) (by omega)
theorem qn22 {k:Nat} (hk:40<k) {ta va tb vb:Int} (ha:I64 va) (hb:I64 vb):dec_Mul.f k ta va tb vb=some (qd17 (nrm (ta,va)) (nrm (tb,vb))):=by
 obtain⟨k,rfl,hk'⟩:=qt3 hk;unfold dec_Mul.f;rw [qe5,qe5];simp only [bs];have na:=qc17 (t:=ta) ha;have nb:=qc17 (t:=tb) hb;generalize nrm (ta,va)=a at *;generalize nrm (tb,vb)=b at *;rw [qt18];simp only [bs];unfold qd17;by_cases h1:a.1=1∨b.1=1
 ·rw [if_pos (by simpa using h1),if_pos h1];rfl
 ·rw [if_neg (by simpa using h1),if_neg h1]
  have hsg:dec_Mul.j0 (k+1) true a.1 a.2 b.1 b.2=some (qy21 (sgn a*sgn b)):=by
   simp only [dec_Mul.j0];rw [if_pos trivial,qu16 (by omega),qu16 (by omega)];simp only [bs];rw [qh9,great_f (qy6 a b)];rfl
  by_cases h2:a.1=0
  ·by_cases h3:b.1=0
   ·rw [if_pos h2,if_neg (by omega)];have e:(b.1 !=0)=false:=by simp [h3]
    rw [e];simp only [dec_Mul.j0];rw [if_neg (by simp),qb20 (na.num h2),qb20 (nb.num h3),qu16 (by omega),qu16 (by omega)];simp only [bs];obtain⟨x,hx,hx'⟩:=qz22 (na.num h2);obtain⟨y,hy,hy'⟩:=qz22 (nb.num h3);rw [hx,hy,ql14 hx' hy',qh9];simp only [bs];have hlt:=Nat.mul_le_mul hx' hy';have e2:((x:Int)*(y:Int))=((x*y:Nat):Int):=by simp
    rw [e2];generalize x*y=P at *;by_cases h4:((P / 18446744073709551616:Nat):Int)≥1000000
    ·rw [if_pos h4,qv13 (by omega),qk21 (by omega)];rfl
    ·rw [if_neg h4];obtain⟨z,hz⟩:=div64_f (P / 18446744073709551616) (P % 18446744073709551616) 1000000 k (by omega) (by omega) (by omega) (by omega);have e3:P / 18446744073709551616*18446744073709551616+P % 18446744073709551616=P:=by omega
     have hQ:P / 1000000<18446744073709551616:=by omega
     rw [e1m,e3]at hz;rw [hz];have e4:((P:Nat):Int) / 1000000=((P / 1000000:Nat):Int):=by omega
     rw [e4];generalize P / 1000000=Q at *;simp only [bs];rw [qt16 (by omega) _ (by omega) (by omega)];rfl
   ·rw [if_pos h2,if_pos (by omega)];have e:(b.1 !=0)=true:=by simp [h3]
    rw [e,hsg]
  ·rw [if_neg h2,if_pos (by omega),hsg]
end Go.Proofs.YtocdckniokhbbaaGreatDoor.DecE
namespace Go.Proofs.YtocdckniokhbbaaGreatDoor.DecF
open Go.RowKit PF YtocdckniokhbbaaGreatDoorW.PrintWords YtocdckniokhbbaaGreatDoorW.PrintLast YtocdckniokhbbaaGreatDoorW.PrintMore DecA DecB DecC DecD DecE
def qe19 (s:Int):Int × Int:=if s>9223372036854775807 then(2,0)else if s< -9223372036854775807 then(3,0)else(0,s)
theorem mk_is {b:Bool} {n s:Int} (h0:0≤n) (h:(if b=true then -n else n)=s):mk b n=qe19 s:=by
 unfold mk qe19
 cases b
 ·simp at h;subst h;by_cases c:n>9223372036854775807
  ·simp [c]
  ·simp [c];omega
 ·simp at h;subst h;by_cases c:n>9223372036854775807
  ·have:¬ -n>9223372036854775807:=by omega
   have h2: -n< -9223372036854775807:=by omega
   simp only [c,this,h2,if_true,if_false]
  ·have:¬ -n>9223372036854775807:=by omega
   have h2:¬ -n< -9223372036854775807:=by omega
   simp only [c,this,h2,if_true,if_false]
def qd19 (a b:Int × Int):Int × Int:=
 if a.1=1∨b.1=1 then(1,0)else if a.1=0 then(if b.1=0 then qe19 (a.2+b.2)else b)
 else if b.1=0 then a else if a.1=b.1 then a else(1,0)
theorem nm_tag {a:Int × Int} (h:Nm a):0≤a.1∧a.1≤3:=by rcases h with h | h<;>omega
theorem qp22 {k:Nat} (hk:40<k) {ta va tb vb:Int} (ha:I64 va) (hb:I64 vb):dec_Add.f k ta va tb vb=some (qd19 (nrm (ta,va)) (nrm (tb,vb))):=by
 obtain⟨k,rfl,hk'⟩:=qt3 hk;unfold dec_Add.f;rw [qe5,qe5];simp only [bs];have na:=qc17 (t:=ta) ha;have nb:=qc17 (t:=tb) hb;generalize nrm (ta,va)=a at *;generalize nrm (tb,vb)=b at *;have ta:=nm_tag na;have tb:=nm_tag nb;unfold dec_tagged.f qd19;by_cases h0:a.1=0∧b.1=0
 ·have na':=na.num h0.1;have nb':=nb.num h0.2;rw [if_pos h0];simp only [bs];rw [if_neg (by simp),if_neg (show ¬ (a.1=1∨b.1=1) by omega),if_pos h0.1,if_pos h0.2];unfold bits_Add64.f;rw [qs6,qs6,if_pos (by omega)];simp only [bs];have ew:wrap64 ((a.2 % 18446744073709551616+b.2 % 18446744073709551616+0) % 18446744073709551616)=wrap64 (a.2+b.2):=by unfold wrap64;omega
  rw [ew]
  have hw:wrap64 (a.2+b.2)=if a.2+b.2>9223372036854775807 then a.2+b.2 - 18446744073709551616 else if a.2+b.2< -9223372036854775808 then a.2+b.2+18446744073709551616 else a.2+b.2:=by
   unfold wrap64
   split
   ·omega
   ·split<;>omega
  rw [hw];generalize a.2=x at *;generalize b.2=y at *;unfold qe19;simp only [dec_Add.j0,dec_over.f,dec_under.f];by_cases p1:x+y>9223372036854775807
  ·have q1:x>0:=by omega
   have q2:y>0:=by omega
   have q3:x+y - 18446744073709551616≤0:=by omega
   simp [p1,q1,q2,q3]
  ·by_cases p2:x+y< -9223372036854775808
   ·have q1:¬ x>0:=by omega
    have q2:x<0:=by omega
    have q3:y<0:=by omega
    have q4:x+y+18446744073709551616≥0:=by omega
    have q5:x+y< -9223372036854775807:=by omega
    simp only [p1,p2,q1,q2,q3,q4,q5,if_true,if_false];simp
   ·by_cases p3:x+y< -9223372036854775807
    ·have q0:x+y= -9223372036854775808:=by omega
     have q1:¬ x>0:=by omega
     have q2:x<0:=by omega
     have q3:y<0:=by omega
     rw [q0]at p1 p2 p3 ⊢;simp [q1,q2,q3]
    ·simp only [p1,p2,p3,if_false];by_cases q1:x>0
     ·by_cases q2:y>0
      ·have q3:¬ x+y≤0:=by omega
       have q4:¬ x<0:=by omega
       simp [q1,q2,q3,q4]
      ·have q4:¬ x<0:=by omega
       simp [q1,q2,q4]
     ·by_cases q4:x<0
      ·by_cases q5:y<0
       ·have q6:¬ x+y≥0:=by omega
        have q7:¬ x+y= -9223372036854775808:=by omega
        simp [q1,q4,q5,q6,q7]
       ·simp [q1,q4,q5]
      ·simp [q1,q4]
 ·rw [if_neg h0,if_pos (by omega)];simp only [bs];rw [if_pos trivial];obtain⟨t1,v1⟩:=a;obtain⟨t2,v2⟩:=b;unfold Nm at na nb;simp only at *
  rcases na with ⟨rfl,_,_⟩ | ⟨rfl | rfl | rfl,rfl⟩<;>rcases nb with ⟨rfl,_,_⟩ | ⟨rfl | rfl | rfl,rfl⟩<;>first | (exfalso;omega) | rfl
theorem qe20 (v:Int):sgn (0,v)=if v>0 then 1 else if v<0 then -1 else 0:=by unfold sgn;simp
theorem qe25 {b:Bool} {n:Int} (h:n≤9223372036854775807):mk b n=(0,if b then -n else n):=if_neg (by omega)
end Go.Proofs.YtocdckniokhbbaaGreatDoor.DecF
namespace Go.Proofs.YtocdckniokhbbaaGreatDoor.DecG
open Go.RowKit PF YtocdckniokhbbaaGreatDoorW.PrintWords YtocdckniokhbbaaGreatDoorW.PrintLast YtocdckniokhbbaaGreatDoorW.PrintMore DecA DecB DecC DecD DecE DecF
theorem qf16 {k:Nat} (hk:40<k) {n:Int} (h: -9223372036854775807≤n∧n≤9223372036854775807):dec_times.f k n=some (qe19 (n*1000000)):=by
 unfold dec_times.f;rw [qb20 h];simp only [bs];obtain⟨x,hx,hx'⟩:=qz22 h;obtain⟨U,hU⟩:∃ U:Nat,U=1000000:=⟨_,rfl⟩;have eU:(1000000:Int)=(U:Int):=by omega
 rw [hx,eU,ql14 hx' (by omega)]
 have hP:(if decide (n<0)=true then -((x*U:Nat):Int)else((x*U:Nat):Int))=n*U:=by
  unfold ab at hx;rw [Int.natCast_mul,← hx];by_cases c:n<0
  ·rw [if_pos c,if_pos (decide_eq_true c)];rw [Int.neg_mul];omega
  ·rw [if_neg c,if_neg (by simpa using c)]
 rw [← mk_is (by omega) hP];generalize x*U=P at *;have e5:P=P / 18446744073709551616*18446744073709551616+P % 18446744073709551616:=by omega
 have hm:P % 18446744073709551616<18446744073709551616:=by omega
 generalize P / 18446744073709551616=H at *;generalize P % 18446744073709551616=M at *;simp only [bs];by_cases c:H=0
 ·have e6:((H:Int) !=0)=false:=by simp [c]
  have e7:P=M:=by omega
  rw [e6,qt16 (by omega) _ (by omega) (by omega),e7];rfl
 ·have e6:((H:Int) !=0)=true:=by simp [c]
  rw [e6,qv13 (by omega),qk21 (by omega)];rfl
theorem qy26 {s:Int} (h:s< -9223372036854775807):qe19 s=(3,0):=by unfold qe19;rw [if_neg (by omega),if_pos h]
theorem qo22 {k:Nat} (hk:40<k) {n:Int} (h:I64 n):dec_Int.f k n=some (qe19 (n*1000000)):=by
 unfold dec_Int.f;unfold I64 at h;by_cases c:n= -9223372036854775808
 ·rw [if_pos c,qy26 (by omega)];rfl
 ·rw [if_neg c,qf16 hk (by omega)];rfl
end Go.Proofs.YtocdckniokhbbaaGreatDoor.DecG
