import Derived.Test.YtocdckniokhbbaaGreatDoorZkZz
import Derived.Test.YtocdckniokhbbaaGreatDoorZkDecD
import Derived.Shelf.GgClosure.StringsTrimFunc
set_option linter.unusedVariables false
set_option linter.unusedSimpArgs false
open List renaming length_cons→AK,cons_append→Bf,takeWhile_cons→BE
open Bool renaming and_eq_true→AF
open Go.Lib renaming decodeL→Bk,size_eq→Bh
open Go.Utf8 renaming decode→BL
open Nat renaming le_refl→Ag
namespace Go.Proofs.YtocdckniokhbbaaGreatDoor.DecC
end Go.Proofs.YtocdckniokhbbaaGreatDoor.DecC
namespace Go.Proofs.YtocdckniokhbbaaGreatDoor.DecE
open Go.RowKit PF YtocdckniokhbbaaGreatDoorW.PrintWords YtocdckniokhbbaaGreatDoorW.PrintLast YtocdckniokhbbaaGreatDoorW.PrintMore DecA DecB DecC DecD
theorem bs {α β:Type} (a:α) (f:α→Option β):(some a).bind f=f a:=of_eq_true (eq_self (f a))
def I64 (v:Int):Prop:= -9223372036854775808≤v∧v≤9223372036854775807
def qe9 (a:Int × Int):Bool:=if a.1=0 then a.2 != -9223372036854775808 else(a.1 == 1 || a.1 == 2 || a.1 == 3) && a.2 == 0
def nrm (a:Int × Int):Int × Int:=if qe9 a=true then a else(1,0)
def Nm (a:Int × Int):Prop:=(a.1=0∧ -9223372036854775807≤a.2∧a.2≤9223372036854775807)∨((a.1=1∨a.1=2∨a.1=3)∧a.2=0)
def mk (b:Bool) (n:Int):Int × Int:=if n>9223372036854775807 then(if b then 3 else 2,0)else(0,if b then -n else n)
def sgn (a:Int × Int):Int:=if a.1=2∨a.2>0 then 1 else if a.1=3∨a.2<0 then -1 else 0
def ql20 (s:Int):Int × Int:=if s>0 then(2,0)else if s<0 then(3,0)else(1,0)
def ab (v:Int):Int:=if v<0 then -v else v
theorem ql15 {t v:Int} (h:I64 v):Nm (nrm (t,v)):=by
 unfold nrm Nm qe9;unfold I64 at h;by_cases c:t=0
 ·simp only [c,if_true];by_cases d:v= -9223372036854775808
  ·simp [d]
  ·simp [d];omega
 ·simp only [c,if_false];by_cases d:((t == 1 || t == 2 || t == 3) && v == 0)=true
  ·rw [if_pos d];simp at d ⊢;omega
  ·rw [if_neg d];simp
theorem qg23 {a:Int × Int} (h:Nm a):qe9 a=true:=by
 unfold Nm at h;unfold qe9
 rcases h with ⟨h1,h2,h3⟩ | ⟨h1 | h1 | h1,h2⟩
 ·rw [if_pos h1];simp;omega
 all_goals rw [if_neg (by omega)];simp [h1,h2]
theorem qi14 {a:Int × Int} (h:Nm a):nrm a=a:=if_pos (qg23 h)
theorem qs14 (t v:Int):dec_Right.f t v=some (qe9 (t,v)):=by
 unfold dec_Right.f qe9;by_cases h0:t=0
 ·simp [h0]
 ·by_cases h1:t=1
  ·simp [h1]
  ·by_cases h2:t=2
   ·simp [h2]
   ·by_cases h3:t=3
    ·simp [h3]
    ·simp [h0,h1,h2,h3]
theorem qv4 (t v:Int):dec_right.f t v=some (nrm (t,v)):=by
 unfold dec_right.f;rw [qs14];unfold nrm;by_cases h:qe9 (t,v)=true<;>simp [h,dec_nan.f]
theorem qz16 (a b:Int × Int):dec_none.f a.1 a.2 b.1 b.2=some (decide (a.1=1∨b.1=1)):=by
 unfold dec_none.f;by_cases h:a.1=1
 ·simp [h]
 ·simp only [h,if_false,false_or];congr 1
theorem qd15 {k:Nat} (hk:0<k) (a:Int × Int):dec_sign.f k a.1 a.2=some (sgn a):=by
 obtain⟨k,rfl,_⟩:=qp3 hk;unfold dec_sign.f sgn;simp only [dec_sign.j0];by_cases h:a.1=2
 ·simp [h]
 ·by_cases h2:a.2>0
  ·simp [h,h2]
  ·simp only [h,h2,if_false,decide_false,false_or];by_cases h3:a.1=3
   ·simp [h3]
   ·by_cases h4:a.2<0<;>simp [h3,h4]
theorem qv12 (a:Int × Int):sgn a=1∨sgn a=0∨sgn a= -1:=by
 unfold sgn;split
 ·exact .inl rfl
 ·split
  ·exact .inr (.inr rfl)
  ·exact .inr (.inl rfl)
theorem great_f {s:Int} (h:s=1∨s=0∨s= -1):dec_great.f s=some (ql20 s):=by
 rcases h with rfl | rfl | rfl<;>rfl
theorem qr6 (a b:Int × Int):sgn a*sgn b=1∨sgn a*sgn b=0∨sgn a*sgn b= -1:=by
 rcases qv12 a with h | h | h<;>rcases qv12 b with h' | h' | h'<;>simp [h,h']
theorem qx8 (a b:Int × Int):wrap64 (sgn a*sgn b)=sgn a*sgn b:=by
 have:=qr6 a b;exact w64 (by omega) (by omega)
theorem qm18 {t v:Int} (h: -9223372036854775807≤v∧v≤9223372036854775807):dec_size.f t v=some (ab v):=by
 unfold dec_size.f ab;by_cases c:v<0
 ·rw [if_pos c,if_pos c,w64 (by omega) (by omega),u64 (by omega) (by omega)]
 ·rw [if_neg c,if_neg c,u64 (by omega) (by omega)]
theorem qi21 {v:Int} (h: -9223372036854775807≤v∧v≤9223372036854775807):∃ n:Nat,ab v=n∧n≤9223372036854775807:=by
 unfold ab
 split
 ·exact⟨(-v).toNat,by omega,by omega⟩
 ·exact⟨v.toNat,by omega,by omega⟩
theorem qc15 {k:Nat} (hk:1<k) (b:Bool) {n:Int} (_h0:0≤n) (_h1:n<18446744073709551616):dec_signed.f k b false n=some (mk b n):=by
 obtain⟨k,rfl,_⟩:=qp3 (show 0<k by omega);obtain⟨k,rfl,_⟩:=qp3 (show 0<k by omega);unfold dec_signed.f mk;rw [if_neg (by simp)];by_cases h:n≤9223372036854775807
 ·rw [if_pos h,if_neg (by omega)];simp only [dec_signed.j0]
  cases b
  ·simp only [dec_signed.j1,h];simp [w64 (show -9223372036854775808≤n by omega) h]
  ·simp [w64 (show -9223372036854775808≤n by omega) h,w64 (show -9223372036854775808≤ -n by omega) (by omega)]
 ·rw [if_neg h,if_pos (by omega)];simp only [dec_signed.j0,dec_signed.j1,h]
  cases b<;>simp [dec_over.f,dec_under.f]
theorem qu12 {k:Nat} (hk:1<k) (b:Bool) (n:Int):dec_signed.f k b true n=some (if b then 3 else 2,0):=by
 obtain⟨k,rfl,_⟩:=qp3 (show 0<k by omega);obtain⟨k,rfl,_⟩:=qp3 (show 0<k by omega);unfold dec_signed.f;simp only [dec_signed.j0,dec_signed.j1]
 cases b<;>simp [dec_over.f,dec_under.f]
theorem qy19 {b:Bool} {n:Int} (h:n>9223372036854775807):mk b n=(if b then 3 else 2,0):=if_pos h
theorem e1m:((1000000:Nat):Int)=1000000:=by omega
def qm15 (a b:Int × Int):Int × Int:=
 if a.1=1∨b.1=1 then(1,0)else if a.1≠0∨b.1≠0 then ql20 (sgn a*sgn b)else mk (decide (sgn a*sgn b<0)) (ab a.2*ab b.2 / 1000000)
theorem Nm.num {a:Int × Int} (h:Nm a) (h0:a.1=0): -9223372036854775807≤a.2∧a.2≤9223372036854775807:=by
 rcases h with h | h
 ·exact h.2
 ·omega
theorem qe13 {x y:Nat} (hx:x≤9223372036854775807) (hy:y≤9223372036854775807):bits_Mul64.f x y=some (((x*y / 18446744073709551616:Nat):Int),((x*y % 18446744073709551616:Nat):Int)):=
 mul64_f x y (by omega) (by omega)
theorem qb21 {k:Nat} (hk:40<k) {ta va tb vb:Int} (ha:I64 va) (hb:I64 vb):dec_Mul.f k ta va tb vb=some (qm15 (nrm (ta,va)) (nrm (tb,vb))):=by
 obtain⟨k,rfl,hk'⟩:=qp3 hk;unfold dec_Mul.f;rw [qv4,qv4];simp only [bs];have na:=ql15 (t:=ta) ha;have nb:=ql15 (t:=tb) hb;generalize nrm (ta,va)=a at *;generalize nrm (tb,vb)=b at *;rw [qz16];simp only [bs];unfold qm15;by_cases h1:a.1=1∨b.1=1
 ·rw [if_pos (by simpa using h1),if_pos h1];rfl
 ·rw [if_neg (by simpa using h1),if_neg h1]
  have hsg:dec_Mul.j0 (k+1) true a.1 a.2 b.1 b.2=some (ql20 (sgn a*sgn b)):=by
   simp only [dec_Mul.j0];rw [if_pos trivial,qd15 (by omega),qd15 (by omega)];simp only [bs];rw [qx8,great_f (qr6 a b)];rfl
  by_cases h2:a.1=0
  ·by_cases h3:b.1=0
   ·rw [if_pos h2,if_neg (by omega)];have e:(b.1 !=0)=false:=by simp [h3]
    rw [e];simp only [dec_Mul.j0];rw [if_neg (by simp),qm18 (na.num h2),qm18 (nb.num h3),qd15 (by omega),qd15 (by omega)];simp only [bs];obtain⟨x,hx,hx'⟩:=qi21 (na.num h2);obtain⟨y,hy,hy'⟩:=qi21 (nb.num h3);rw [hx,hy,qe13 hx' hy',qx8];simp only [bs];have hlt:=Nat.mul_le_mul hx' hy';have e2:((x:Int)*(y:Int))=((x*y:Nat):Int):=by simp
    rw [e2];generalize x*y=P at *;by_cases h4:((P / 18446744073709551616:Nat):Int)≥1000000
    ·rw [if_pos h4,qu12 (by omega),qy19 (by omega)];rfl
    ·rw [if_neg h4];obtain⟨z,hz⟩:=div64_f (P / 18446744073709551616) (P % 18446744073709551616) 1000000 k (by omega) (by omega) (by omega) (by omega);have e3:P / 18446744073709551616*18446744073709551616+P % 18446744073709551616=P:=by omega
     have hQ:P / 1000000<18446744073709551616:=by omega
     rw [e1m,e3]at hz;rw [hz];have e4:((P:Nat):Int) / 1000000=((P / 1000000:Nat):Int):=by omega
     rw [e4];generalize P / 1000000=Q at *;simp only [bs];rw [qc15 (by omega) _ (by omega) (by omega)];rfl
   ·rw [if_pos h2,if_pos (by omega)];have e:(b.1 !=0)=true:=by simp [h3]
    rw [e,hsg]
  ·rw [if_neg h2,if_pos (by omega),hsg]
end Go.Proofs.YtocdckniokhbbaaGreatDoor.DecE
namespace Go.Proofs.YtocdckniokhbbaaGreatDoor.DecF
open Go.RowKit PF YtocdckniokhbbaaGreatDoorW.PrintWords YtocdckniokhbbaaGreatDoorW.PrintLast YtocdckniokhbbaaGreatDoorW.PrintMore DecA DecB DecC DecD DecE
def qm17 (s:Int):Int × Int:=if s>9223372036854775807 then(2,0)else if s< -9223372036854775807 then(3,0)else(0,s)
theorem mk_is {b:Bool} {n s:Int} (h0:0≤n) (h:(if b=true then -n else n)=s):mk b n=qm17 s:=by
 unfold mk qm17
 cases b
 ·simp at h;subst h;by_cases c:n>9223372036854775807
  ·simp [c]
  ·simp [c];omega
 ·simp at h;subst h;by_cases c:n>9223372036854775807
  ·have:¬ -n>9223372036854775807:=by omega
   have h2: -n< -9223372036854775807:=by omega
   simp only [c,this,h2,if_true,if_false]
  ·have:¬ -n>9223372036854775807:=by omega
   have h2:¬ -n< -9223372036854775807:=by omega
   simp only [c,this,h2,if_true,if_false]
def ql17 (a b:Int × Int):Int × Int:=
 if a.1=1∨b.1=1 then(1,0)else if a.1=0 then(if b.1=0 then qm17 (a.2+b.2)else b)
 else if b.1=0 then a else if a.1=b.1 then a else(1,0)
theorem nm_tag {a:Int × Int} (h:Nm a):0≤a.1∧a.1≤3:=by rcases h with h | h<;>omega
theorem qd21 {k:Nat} (hk:40<k) {ta va tb vb:Int} (ha:I64 va) (hb:I64 vb):dec_Add.f k ta va tb vb=some (ql17 (nrm (ta,va)) (nrm (tb,vb))):=by
 obtain⟨k,rfl,hk'⟩:=qp3 hk;unfold dec_Add.f;rw [qv4,qv4];simp only [bs];have na:=ql15 (t:=ta) ha;have nb:=ql15 (t:=tb) hb;generalize nrm (ta,va)=a at *;generalize nrm (tb,vb)=b at *;have ta:=nm_tag na;have tb:=nm_tag nb;unfold dec_tagged.f ql17;by_cases h0:a.1=0∧b.1=0
 ·have na':=na.num h0.1;have nb':=nb.num h0.2;rw [if_pos h0];simp only [bs];rw [if_neg (by simp),if_neg (show ¬ (a.1=1∨b.1=1) by omega),if_pos h0.1,if_pos h0.2];unfold bits_Add64.f;rw [ql6,ql6,if_pos (by omega)];simp only [bs];have ew:wrap64 ((a.2 % 18446744073709551616+b.2 % 18446744073709551616+0) % 18446744073709551616)=wrap64 (a.2+b.2):=by unfold wrap64;omega
  rw [ew]
  have hw:wrap64 (a.2+b.2)=if a.2+b.2>9223372036854775807 then a.2+b.2 - 18446744073709551616 else if a.2+b.2< -9223372036854775808 then a.2+b.2+18446744073709551616 else a.2+b.2:=by
   unfold wrap64
   split
   ·omega
   ·split<;>omega
  rw [hw];generalize a.2=x at *;generalize b.2=y at *;unfold qm17;simp only [dec_Add.j0,dec_over.f,dec_under.f];by_cases p1:x+y>9223372036854775807
  ·have q1:x>0:=by omega
   have q2:y>0:=by omega
   have q3:x+y - 18446744073709551616≤0:=by omega
   simp [p1,q1,q2,q3]
  ·by_cases p2:x+y< -9223372036854775808
   ·have q1:¬ x>0:=by omega
    have q2:x<0:=by omega
    have q3:y<0:=by omega
    have q4:x+y+18446744073709551616≥0:=by omega
    have q5:x+y< -9223372036854775807:=by omega
    simp only [p1,p2,q1,q2,q3,q4,q5,if_true,if_false];simp
   ·by_cases p3:x+y< -9223372036854775807
    ·have q0:x+y= -9223372036854775808:=by omega
     have q1:¬ x>0:=by omega
     have q2:x<0:=by omega
     have q3:y<0:=by omega
     rw [q0]at p1 p2 p3 ⊢;simp [q1,q2,q3]
    ·simp only [p1,p2,p3,if_false];by_cases q1:x>0
     ·by_cases q2:y>0
      ·have q3:¬ x+y≤0:=by omega
       have q4:¬ x<0:=by omega
       simp [q1,q2,q3,q4]
      ·have q4:¬ x<0:=by omega
       simp [q1,q2,q4]
     ·by_cases q4:x<0
      ·by_cases q5:y<0
       ·have q6:¬ x+y≥0:=by omega
        have q7:¬ x+y= -9223372036854775808:=by omega
        simp [q1,q4,q5,q6,q7]
       ·simp [q1,q4,q5]
      ·simp [q1,q4]
 ·rw [if_neg h0,if_pos (by omega)];simp only [bs];rw [if_pos trivial];obtain⟨t1,v1⟩:=a;obtain⟨t2,v2⟩:=b;unfold Nm at na nb;simp only at *
  rcases na with ⟨rfl,_,_⟩ | ⟨rfl | rfl | rfl,rfl⟩<;>rcases nb with ⟨rfl,_,_⟩ | ⟨rfl | rfl | rfl,rfl⟩<;>first | (exfalso;omega) | rfl
theorem qp18 (v:Int):sgn (0,v)=if v>0 then 1 else if v<0 then -1 else 0:=by unfold sgn;simp
theorem ql23 {b:Bool} {n:Int} (h:n≤9223372036854775807):mk b n=(0,if b then -n else n):=if_neg (by omega)
end Go.Proofs.YtocdckniokhbbaaGreatDoor.DecF
namespace Go.Proofs.YtocdckniokhbbaaGreatDoor.DecG
open Go.RowKit PF YtocdckniokhbbaaGreatDoorW.PrintWords YtocdckniokhbbaaGreatDoorW.PrintLast YtocdckniokhbbaaGreatDoorW.PrintMore DecA DecB DecC DecD DecE DecF
theorem qr14 {k:Nat} (hk:40<k) {n:Int} (h: -9223372036854775807≤n∧n≤9223372036854775807):dec_times.f k n=some (qm17 (n*1000000)):=by
 unfold dec_times.f;rw [qm18 h];simp only [bs];obtain⟨x,hx,hx'⟩:=qi21 h;obtain⟨U,hU⟩:∃ U:Nat,U=1000000:=⟨_,rfl⟩;have eU:(1000000:Int)=(U:Int):=by omega
 rw [hx,eU,qe13 hx' (by omega)]
 have hP:(if decide (n<0)=true then -((x*U:Nat):Int)else((x*U:Nat):Int))=n*U:=by
  unfold ab at hx;rw [Int.natCast_mul,← hx];by_cases c:n<0
  ·rw [if_pos c,if_pos (decide_eq_true c)];rw [Int.neg_mul];omega
  ·rw [if_neg c,if_neg (by simpa using c)]
 rw [← mk_is (by omega) hP];generalize x*U=P at *;have e5:P=P / 18446744073709551616*18446744073709551616+P % 18446744073709551616:=by omega
 have hm:P % 18446744073709551616<18446744073709551616:=by omega
 generalize P / 18446744073709551616=H at *;generalize P % 18446744073709551616=M at *;simp only [bs];by_cases c:H=0
 ·have e6:((H:Int) !=0)=false:=by simp [c]
  have e7:P=M:=by omega
  rw [e6,qc15 (by omega) _ (by omega) (by omega),e7];rfl
 ·have e6:((H:Int) !=0)=true:=by simp [c]
  rw [e6,qu12 (by omega),qy19 (by omega)];rfl
theorem qa25 {s:Int} (h:s< -9223372036854775807):qm17 s=(3,0):=by unfold qm17;rw [if_neg (by omega),if_pos h]
theorem qc21 {k:Nat} (hk:40<k) {n:Int} (h:I64 n):dec_Int.f k n=some (qm17 (n*1000000)):=by
 unfold dec_Int.f;unfold I64 at h;by_cases c:n= -9223372036854775808
 ·rw [if_pos c,qa25 (by omega)];rfl
 ·rw [if_neg c,qr14 hk (by omega)];rfl
end Go.Proofs.YtocdckniokhbbaaGreatDoor.DecG
namespace Go.Proofs.YtocdckniokhbbaaGreatDoor.SpanA
open Go.RowKit YtocdckniokhbbaaGreatDoorW.PrintWords YtocdckniokhbbaaGreatDoorW.PrintLast YtocdckniokhbbaaGreatDoorW.PrintMore CharA CharB CharC CharD CharF PF
def ba (l:List UInt8):ByteArray:=⟨l.toArray⟩
theorem qe1 (l:List UInt8):(ba l).data.toList=l:=rfl
theorem qt1 (s:ByteArray):ba s.data.toList=s:=rfl
theorem qs1 (l:List UInt8):(ba l).size=l.length:=by show l.toArray.size=_;simp
theorem qe2 {a b:ByteArray} (h:a.data.toList=b.data.toList):a=b:=by rw [← qt1 a,← qt1 b,h]
theorem ba_app (a b:List UInt8):ba a ++ ba b=ba (a ++ b):=qe2 (by rw [qv24];rfl)
theorem qo1 (s:ByteArray) (i j:Nat):(s.extract i j).data.toList=(s.data.toList.drop i).take (j - i):=by
 rw [ByteArray.data_extract,Array.toList_extract]
end Go.Proofs.YtocdckniokhbbaaGreatDoor.SpanA
namespace Go.Proofs.YtocdckniokhbbaaGreatDoor.FigA
open Go.RowKit YtocdckniokhbbaaGreatDoorW.PrintWords YtocdckniokhbbaaGreatDoorW.PrintLast YtocdckniokhbbaaGreatDoorW.PrintMore DecA DecE DecF SpanA
def qb2 (c:UInt8):Bool:=decide (48≤c.toNat) && decide (c.toNat≤57)
theorem qm3 (c:UInt8):qb2 c=true↔48≤c.toNat∧c.toNat≤57:=by unfold qb2;simp
def qf12 (l:List UInt8):Int:=l.foldl (fun a c=>10*a+((c.toNat:Int) - 48)) 0
theorem qi12 (l:List UInt8) (c:UInt8):qf12 (l ++ [c])=10*qf12 l+((c.toNat:Int) - 48):=by unfold qf12;simp
theorem qq20 (l:List UInt8):∀ a:Int,l.foldl (fun a c=>10*a+((c.toNat:Int) - 48)) a=10 ^ l.length*a+qf12 l:=by
 unfold qf12
 induction l with
 | nil=>intro a;simp
 | cons c l ih=>
  intro a;simp only [List.foldl_cons,AK];rw [ih,ih (10*0+_),Int.pow_succ]
  grind
theorem qw21 (a b:List UInt8):qf12 (a ++ b)=10 ^ b.length*qf12 a+qf12 b:=by
 have:=qq20 b (qf12 a);unfold qf12 at this ⊢;rw [List.foldl_append];exact this
theorem qv13:∀ (n:Nat) (l:List UInt8),l.length=n→l.all qb2=true→0≤qf12 l:=by
 intro n
 induction n with
 | zero=>intro l h _;rw [List.length_eq_zero_iff.1 h];decide
 | succ n ih=>
  intro l h ha;obtain⟨a,c,rfl⟩:∃ a c,l=a ++ [c]:=⟨l.dropLast,l.getLast (by intro e;rw [e]at h;simp at h),(List.dropLast_concat_getLast _).symm⟩;rw [List.all_append,AF]at ha;have h1:=ih a (by simp at h;exact h) ha.1;have h2:=ha.2;simp at h2;rw [qm3]at h2;rw [qi12];omega
def litP (s:List UInt8):Option (List UInt8 × List UInt8):=
 let a:=s.takeWhile qb2
 let r:=s.dropWhile qb2
 if r= []then(if a= []then none else some (a,[]))
 else if r.head?=some 46 then(if r.tail.all qb2=true∧(a≠ []∨r.tail≠ [])then some (a,r.tail)else none)else none
def qb15 (b:List UInt8):List UInt8:=(b ++ List.replicate 6 48).take 6
def qt7 (s:List UInt8):(Int × Int) × Bool:=match litP s with | some (a,b)=>(mk false (qf12 (a ++ qb15 b)),true) | none=>((0,0),false)
def spB (c:UInt8):Bool:=c == 32 || c == 9 || c == 10 || c == 13
theorem qm4 {p:UInt8→Bool}:∀ (a b:List UInt8),a.all p=true→(b.head?.map p≠some true)→(a ++ b).takeWhile p=a∧(a ++ b).dropWhile p=b
 | [],[],_,_=>⟨rfl,rfl⟩
 | [],c :: b,_,h=>by
  have hc:p c=false:=by cases hp:p c with | false=>rfl | true=>exact absurd (by simp [hp]) h
  simp [List.takeWhile,List.dropWhile,hc]
 | c :: a,b,h,hb=>by
  rw [List.all_cons,AF]at h;have:=qm4 a b h.2 hb;rw [Bf,BE,List.dropWhile_cons,if_pos h.1,if_pos h.1,this.1,this.2];exact⟨rfl,rfl⟩
theorem qy7 {p:UInt8→Bool}:∀ l:List UInt8,∃ z,l=z ++ l.dropWhile p∧z.all p=true
 | []=>⟨[],rfl,rfl⟩
 | c :: l=>by
  obtain⟨z,h1,h2⟩:=qy7 (p:=p) l;rw [List.dropWhile_cons];by_cases hp:p c=true
  ·rw [if_pos hp];refine⟨c :: z,?_,by rw [List.all_cons,hp,h2];rfl⟩;rw [Bf,← h1]
  ·rw [if_neg hp];exact⟨[],rfl,rfl⟩
theorem all48:∀ z:List UInt8,z.all (· == 48)=true→z=List.replicate z.length 48
 | [],_=>rfl
 | c :: z,h=>by
  rw [List.all_cons,AF]at h;have hc:c=48:=by simpa using h.1
  rw [AK,List.replicate_succ,← all48 z h.2,hc]
theorem nm_mk (b:Bool) (n:Int) (h:0≤n):Nm (mk b n):=by
 unfold mk Nm
 split
 ·right;cases b<;>simp
 ·left;cases b<;>simp<;>omega
theorem qd14 (b:List UInt8) (h:b.all qb2=true):(qb15 b).all qb2=true:=by
 unfold qb15;rw [List.all_eq_true];intro c hc;have:=List.mem_of_mem_take hc;rw [List.mem_append]at this
 rcases this with q | q
 ·exact List.all_eq_true.1 h c q
 ·rw [List.mem_replicate]at q;rw [q.2];decide
theorem qn15 {s a b:List UInt8} (h:litP s=some (a,b)):a.all qb2=true∧b.all qb2=true:=by
 have ht:(s.takeWhile qb2).all qb2=true:=List.all_takeWhile;unfold litP at h;simp only at h
 split at h
 ·split at h
  ·cases h
  ·cases h;exact⟨ht,rfl⟩
 ·split at h
  ·split at h
   ·rename_i q;cases h;exact⟨ht,q.1⟩
   ·cases h
  ·cases h
theorem nm_lit (s:List UInt8):Nm (qt7 s).1:=by
 unfold qt7
 cases h:litP s with
 | none=>exact .inl ⟨rfl,by decide⟩
 | some q=>
  obtain⟨a,b⟩:=q;have:=qn15 h;exact nm_mk false _ (qv13 _ _ rfl (by rw [List.all_append,this.1,qd14 b this.2];rfl))
end Go.Proofs.YtocdckniokhbbaaGreatDoor.FigA
namespace Go.Proofs.YtocdckniokhbbaaGreatDoor.FigB
open Go.RowKit YtocdckniokhbbaaGreatDoorW.PrintWords YtocdckniokhbbaaGreatDoorW.PrintLast YtocdckniokhbbaaGreatDoorW.PrintMore DecA DecE DecF SpanA FigA
def qd10 (d:Int × Int) (c:UInt8):Int × Int:=ql17 (nrm (qm15 (nrm d) (0,10000000))) (nrm (0,(c.toNat:Int) - 48))
theorem nrm_mk (n:Int) (h:0≤n):nrm (mk false n)=mk false n:=qi14 (nm_mk false n h)
theorem qx19 {n:Int} (h:n>9223372036854775807):mk false n=(2,0):=by rw [qy19 h];rfl
theorem mk_lo {n:Int} (h:n≤9223372036854775807):mk false n=(0,n):=by rw [ql23 h];rfl
theorem qt19 (x:Int) (h:0≤x∧x≤9):nrm (0,x)=(0,x):=qi14 (.inl ⟨rfl,by omega⟩)
theorem step_mk (n:Int) (hn:0≤n) (c:UInt8) (hc:qb2 c=true):qd10 (mk false n) c=mk false (10*n+((c.toNat:Int) - 48)):=by
 rw [qm3]at hc;have h9:0≤(c.toNat:Int) - 48∧(c.toNat:Int) - 48≤9:=by omega
 unfold qd10;rw [nrm_mk n hn,qt19 _ h9];generalize (c.toNat:Int) - 48=x at *;by_cases h:n>9223372036854775807
 ·rw [qx19 h,qx19 (show 10*n+x>9223372036854775807 by omega)];have e:qm15 (2,0) (0,10000000)=(2,0):=by decide
  rw [e,show nrm (2,0)=(2,0) by decide];unfold ql17;simp
 ·have hab:ab n=n:=by unfold ab;rw [if_neg (by omega)]
  have e:qm15 (0,n) (0,10000000)=mk false (10*n):=by
   unfold qm15;rw [if_neg (by simp),if_neg (by simp)]
   have h1:decide (sgn (0,n)*sgn (0,10000000)<0)=false:=by
    rw [qp18,qp18,decide_eq_false_iff_not];rw [if_pos (show(10000000:Int)>0 by omega)]
    repeat' split
    all_goals omega
   rw [h1];simp only;rw [hab,show ab 10000000=10000000 from rfl,show n*10000000 / 1000000=10*n by omega]
  rw [mk_lo (by omega),e,nrm_mk _ (by omega)];by_cases h2:10*n>9223372036854775807
  ·rw [qx19 h2,qx19 (show 10*n+x>9223372036854775807 by omega)];unfold ql17;simp
  ·rw [mk_lo (by omega)];have e2:ql17 (0,10*n) (0,x)=qm17 (10*n+x):=by unfold ql17;rw [if_neg (by simp),if_pos rfl,if_pos rfl]
   rw [e2];unfold qm17;by_cases h3:10*n+x>9223372036854775807
   ·rw [qx19 h3,if_pos h3]
   ·rw [mk_lo (by omega),if_neg h3,if_neg (by omega)]
theorem qp20:∀ (l:List UInt8) (n:Int),0≤n→l.all qb2=true→l.foldl qd10 (mk false n)=mk false (l.foldl (fun a c=>10*a+((c.toNat:Int) - 48)) n)
 | [],n,_,_=>rfl
 | c :: l,n,hn,h=>by
  rw [List.all_cons,AF]at h;have hc:=(qm3 c).1 h.1;simp only [List.foldl_cons];rw [step_mk n hn c h.1,qp20 l _ (by omega) h.2]
theorem qi24 (l:List UInt8) (h:l.all qb2=true):l.foldl qd10 (0,0)=mk false (qf12 l):=qp20 l 0 (by omega) h
theorem qv21 (a b:List UInt8):qf12 (a.dropWhile (· == 48) ++ b)=qf12 (a ++ b):=by
 obtain⟨z,h1,h2⟩:=qy7 (p:=(· == (48:UInt8))) a
 have hz:qf12 z=0:=by
  rw [all48 z h2];generalize z.length=k
  induction k with
  | zero=>rfl
  | succ k ih=>rw [List.replicate_succ',qi12,ih];decide
 conv=>rhs;rw [h1]
 rw [List.append_assoc,qw21 z,hz];omega
theorem qj12 (a:List UInt8) (h:a.all qb2=true):(a.dropWhile (· == 48)).all qb2=true:=by
 obtain⟨z,h1,h2⟩:=qy7 (p:=(· == (48:UInt8))) a;rw [h1,List.all_append,AF]at h;exact h.2
theorem qh24 (a b:List UInt8) (ha:a.all qb2=true) (hb:b.all qb2=true):(a.dropWhile (· == 48) ++ qb15 b).foldl qd10 (0,0)=mk false (qf12 (a ++ qb15 b)):=by
 rw [qi24 _ (by rw [List.all_append,qj12 a ha,qd14 b hb];rfl),qv21]
end Go.Proofs.YtocdckniokhbbaaGreatDoor.FigB
namespace Go.Proofs.YtocdckniokhbbaaGreatDoor.FigC
open Go.RowKit YtocdckniokhbbaaGreatDoorW.PrintWords YtocdckniokhbbaaGreatDoorW.PrintLast YtocdckniokhbbaaGreatDoorW.PrintMore CharB CharD CharF SpanA FigA
def sp (x:Nat):Bool:=qq12 (x:Int)
theorem sp_low (c:UInt8):sp c.toNat=spB c:=by
 have:∀ c:UInt8,sp c.toNat=spB c:=by
  intro c;have h:∀ n:Fin 256,sp (UInt8.ofNat n.1).toNat=spB (UInt8.ofNat n.1):=by decide +kernel
  have:=h ⟨c.toNat,c.toNat_lt⟩;simpa using this
 exact this c
theorem qn22 (c:UInt8) (h:128≤c.toNat):spB c=false:=by
 have n:∀ d:UInt8,d.toNat<128→c≠d:=fun d hd e=>by rw [e]at h;omega
 unfold spB;simp [n 32 (by decide),n 9 (by decide),n 10 (by decide),n 13 (by decide)]
theorem dec_ba (l:List UInt8):BL (ba l) 0=Bk l:=by
 have:=Lib.decodeL_drop (ba l) 0;rw [List.drop_zero,qe1]at this;exact this.symm
theorem sp_high (c:UInt8) (t:List UInt8) (h:128≤c.toNat):sp (Bk (c :: t)).1=false:=by
 rw [← dec_ba];have hz:0<(ba (c :: t)).size:=by rw [qs1];simp
 exact qx16 (ba (c :: t)) 0 hz (by show 128≤c.toNat;exact h)
theorem left_sp (s:ByteArray):∀ (n pos:Nat),s.size≤pos+n →
  (Lib.idxFuncFrom sp false s n pos= -1∧(s.data.toList.drop pos).dropWhile spB= [])∨(∃ k:Nat,Lib.idxFuncFrom sp false s n pos=(k:Int)∧pos≤k∧k<s.size∧(s.data.toList.drop pos).dropWhile spB=s.data.toList.drop k):=by
 intro n
 induction n with
 | zero=>
  intro pos h;left;rw [List.drop_eq_nil_of_le za3];exact⟨rfl,rfl⟩
 | succ n ih=>
  intro pos h;by_cases hp:pos<s.size
  ·have hp':pos<s.data.toList.length:=by rw [← Bh];exact hp
   unfold Lib.idxFuncFrom;rw [if_pos hp,← Lib.decodeL_drop,List.drop_eq_getElem_cons hp',List.dropWhile_cons];by_cases hc:(s.data.toList[pos]).toNat<128
   ·rw [Lib.decodeL_ascii _ _ hc];simp only;rw [sp_low]
    cases hs:spB s.data.toList[pos]with
    | true=>
     rw [if_neg (by simp),if_pos rfl]
     rcases ih (pos+1) (by omega)with ⟨h1,h2⟩ | ⟨k,h1,h2,h3,h4⟩
     ·exact .inl ⟨h1,h2⟩
     ·exact .inr ⟨k,h1,by omega,h3,h4⟩
    | false=>
     rw [if_pos rfl,if_neg (by simp),← List.drop_eq_getElem_cons hp'];exact .inr ⟨pos,rfl,Ag _,hp,rfl⟩
   ·rw [sp_high _ _ (by omega),if_pos rfl,qn22 _ (by omega),if_neg (by simp),← List.drop_eq_getElem_cons hp'];exact .inr ⟨pos,rfl,Ag _,hp,rfl⟩
  ·left;rw [Lib.idxFuncFrom_end _ _ _ _ _ hp,List.drop_eq_nil_of_le za3];exact⟨rfl,rfl⟩
theorem qx13 (s:ByteArray):Lib.trimLeftF sp s=ba (s.data.toList.dropWhile spB):=by
 have h:=left_sp s s.size 0 (by omega);rw [List.drop_zero]at h;apply qe2;rw [qe1];unfold Lib.trimLeftF Lib.idxFunc
 rcases h with ⟨h1,h2⟩ | ⟨k,h1,h2,h3,h4⟩
 ·rw [h1,if_pos rfl,h2]
 ·rw [h1,if_neg (by omega),h4,Int.toNat_natCast,qo1,List.take_of_length_le (by rw [List.length_drop,← Bh];exact Ag _)]
theorem getD_at (l:List UInt8) (i:Nat) (h:i<l.length):l.getD i 0=l[i]:=by simp [List.getD,h]
end Go.Proofs.YtocdckniokhbbaaGreatDoor.FigC
