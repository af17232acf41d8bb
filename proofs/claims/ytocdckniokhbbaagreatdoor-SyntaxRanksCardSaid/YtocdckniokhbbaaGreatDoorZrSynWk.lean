import Derived.Test.YtocdckniokhbbaaGreatDoorZrZz
import Derived.Test.YtocdckniokhbbaaGreatDoorZrFc
import Derived.Test.YtocdckniokhbbaaGreatDoorZrSynPp
import Derived.Test.YtocdckniokhbbaaGreatDoorZrSynN
import Derived.Test.YtocdckniokhbbaaGreatDoorZrFigG
import Derived.Test.YtocdckniokhbbaaGreatDoorZrFigI
import Derived.Test.YtocdckniokhbbaaGreatDoorZrSynS
import Derived.Test.YtocdckniokhbbaaGreatDoorZrSamB
import Derived.Deep.LoopGhost
set_option linter.unusedVariables false
set_option linter.unusedSimpArgs false
open Go.Value renaming string→Ac,int→Aa,slice→Ad,bool→Ae
open Go.Proofs.Tryz renaming prog→Am
open Go.IntKind renaming i64→Ab
open List.cons renaming injEq→BF
open Go.Obj renaming cells→Af
open Nat renaming le_refl→Ag,le_of_lt→Ah
open Go.RowKit.Below renaming refl→Ao,heap_setCell→AS
open Go.Lib renaming cell_of_heap→Ai
open List renaming sizeOf_lt_of_mem→Bp,getElem?_eq_getElem→AH,mem_of_getElem?→Bd
open Array renaming getElem?_eq_some_iff→An
open Bool renaming and_eq_true→AK
set_option maxHeartbeats 8000000
set_option maxRecDepth 100000
namespace Go.Proofs.YtocdckniokhbbaaGreatDoor.Syn
open Go.RowKit Go.Shelf YtocdckniokhbbaaGreatDoorW.PrintWords YtocdckniokhbbaaGreatDoorW.PrintLast YtocdckniokhbbaaGreatDoorW.PrintMore CharB SpanA FigD FigI LexA LexF
def qo17:Prop:=∀ (s:ByteArray) (w:World),ql7 w→s.size≤9223372036854775807→Calls Am 12 #[Ac s] w (ParA w (qv1 s.data.toList).1 (qv1 s.data.toList).2)
theorem RepE.inv {F:Nat→Prop} {w:World} {op:Int} {s:List UInt8} {v t:Int} {abs:Bool} {kids:List Ex} {steps:List St} {op':Int} {s':ByteArray} {d' t':Int} {b':Bool} {A1:Option Addr} {n1 c1:Nat} {A2:Option Addr} {n2 c2:Nat}
  (h:RepE F w (.mk op s v t abs kids steps) [Aa Ab op',Ac s',Aa Ab d',Aa Ab t',Ae b',Ad A1 n1 c1,Ad A2 n2 c2]) :
  op'=op∧s'=ba s∧d'=v∧t'=t∧b'=abs∧n1=kids.length∧kids.length≤c1∧(∃ xs,RepR F w kids xs∧Row F w A1 xs)∧n2=steps.length∧steps.length≤c2∧(∃ xs,RepT F w steps xs∧Row F w A2 xs):=by
 simp only [RepE]at h;obtain⟨K,S,h1,⟨A,c,xs,rfl,h2,h3,h4⟩,⟨A',c',xs',rfl,h5,h6,h7⟩⟩:=h;simp only [BF,Value.int.injEq,Value.string.injEq,Value.bool.injEq,Value.slice.injEq,and_true,true_and]at h1;obtain⟨rfl,rfl,rfl,rfl,rfl,⟨rfl,rfl,rfl⟩,rfl,rfl,rfl⟩:=h1;exact⟨rfl,rfl,rfl,rfl,rfl,rfl,h2,⟨xs,h3,h4⟩,rfl,h5,⟨xs',h6,h7⟩⟩
end Go.Proofs.YtocdckniokhbbaaGreatDoor.Syn
namespace Go.Proofs.YtocdckniokhbbaaGreatDoor.Syn
open Go.RowKit Go.Shelf YtocdckniokhbbaaGreatDoorW.PrintWords YtocdckniokhbbaaGreatDoorW.PrintLast YtocdckniokhbbaaGreatDoorW.PrintMore CharB SpanA FigD LexA LexF
theorem qt22 (a k:Int) (s:List UInt8) (h:Bool) (ps:List Ex) (a' k':Int) (s':List UInt8) (h':Bool) (ps':List Ex) (w:World) (A1:Option Addr) (c1:Nat) (A1':Option Addr) (c1':Nat) (hcs:∀ W,Below w.heap.size w W→Calls Am 35 #[Ad A1 ps.length c1,Ad A1' ps'.length c1',.func (.func 16) #[] #[]] W (qa11 W (qq1 ps ps'))) :
  Calls Am 34 #[.agg #[Aa Ab a,Aa Ab k,Ac (ba s),Ae h,Ad A1 ps.length c1],.agg #[Aa Ab a',Aa Ab k',Ac (ba s'),Ae h',Ad A1' ps'.length c1']] w (qa11 w (qc3 (.mk a k s h ps) (.mk a' k' s' h' ps'))):=by
 have HB2:=Aside0.mk (((Ao w.heap.size w).alloc (Ag _) (Af #[Aa Ab a,Aa Ab k,Ac (ba s),Ae h,Ad A1 ps.length c1] 73)).alloc (by simp) (Af #[Aa Ab a',Aa Ab k',Ac (ba s'),Ae h',Ad A1' ps'.length c1'] 73));by_cases h_a:a=a';rotate_left
 ·rw [show qc3 (.mk a k s h ps) (.mk a' k' s' h' ps')=false by simp [qc3,h_a]];have ea:(a == a')=false:=by simp [h_a]
  have ea2:(a !=a')=true:=by simp [h_a]
  clear h_a hcs;go_enter Tryz.func34,Tryz.ntmps34;go_wp2_with fail
  go_ret;exact⟨rfl,HB2.out⟩
 by_cases h_k:k=k';rotate_left
 ·rw [show qc3 (.mk a k s h ps) (.mk a' k' s' h' ps')=false by simp [qc3,h_k]];have ea:(a == a')=true:=by simp [h_a]
  have ea2:(a !=a')=false:=by simp [h_a]
  have ek:(k == k')=false:=by simp [h_k]
  have ek2:(k !=k')=true:=by simp [h_k]
  clear h_a h_k hcs;go_enter Tryz.func34,Tryz.ntmps34;go_wp2_with fail
  go_ret;exact⟨rfl,HB2.out⟩
 by_cases h_s:s=s';rotate_left
 ·rw [show qc3 (.mk a k s h ps) (.mk a' k' s' h' ps')=false by simp [qc3,h_s]];have ea:(a == a')=true:=by simp [h_a]
  have ea2:(a !=a')=false:=by simp [h_a]
  have ek:(k == k')=true:=by simp [h_k]
  have ek2:(k !=k')=false:=by simp [h_k]
  have es:((ba s).toList == (ba s').toList)=false:=by rw [qm5];simp [h_s]
  have es2:((ba s).toList !=(ba s').toList)=true:=by unfold bne;rw [es];rfl
  clear h_a h_k h_s hcs;go_enter Tryz.func34,Tryz.ntmps34;go_wp2_with fail
  go_ret;exact⟨rfl,HB2.out⟩
 by_cases h_h:h=h';rotate_left
 ·rw [show qc3 (.mk a k s h ps) (.mk a' k' s' h' ps')=false by simp [qc3,h_h]];have ea:(a == a')=true:=by simp [h_a]
  have ea2:(a !=a')=false:=by simp [h_a]
  have ek:(k == k')=true:=by simp [h_k]
  have ek2:(k !=k')=false:=by simp [h_k]
  have es:((ba s).toList == (ba s').toList)=true:=by rw [qm5];simp [h_s]
  have es2:((ba s).toList !=(ba s').toList)=false:=by unfold bne;rw [es];rfl
  have eh:(h == h')=false:=by simp [h_h]
  have eh2:(h !=h')=true:=by simp [h_h]
  clear h_a h_k h_s h_h hcs;go_enter Tryz.func34,Tryz.ntmps34;go_wp2_with fail
  go_ret;exact⟨rfl,HB2.out⟩
 have ea:(a == a')=true:=by simp [h_a]
 have ea2:(a !=a')=false:=by simp [h_a]
 have ek:(k == k')=true:=by simp [h_k]
 have ek2:(k !=k')=false:=by simp [h_k]
 have es:((ba s).toList == (ba s').toList)=true:=by rw [qm5];simp [h_s]
 have es2:((ba s).toList !=(ba s').toList)=false:=by unfold bne;rw [es];rfl
 have eh:(h == h')=true:=by simp [h_h]
 have eh2:(h !=h')=false:=by simp [h_h]
 rw [show qc3 (.mk a k s h ps) (.mk a' k' s' h' ps')=qq1 ps ps' by simp [qc3,h_a,h_k,h_s,h_h]];generalize qq1 ps ps'=R at *;have HC:=Aside0.mk (hcs _ HB2.out);clear hcs h_a h_k h_s h_h;go_enter Tryz.func34,Tryz.ntmps34
 cases R with
 | false=>
  go_wp2_with fail
  refine HC.out.mono ?_;rintro e w3 ⟨rfl,b3⟩;have HB3:=Aside0.mk (HB2.out.trans (b3.mono HB2.out.size));clear b3;go_wp2_with fail
  go_ret;exact⟨rfl,HB3.out⟩
 | true=>
  go_wp2_with fail
  refine HC.out.mono ?_;rintro e w3 ⟨rfl,b3⟩;have HB3:=Aside0.mk (HB2.out.trans (b3.mono HB2.out.size));clear b3;go_wp2_with fail
  go_ret;exact⟨rfl,HB3.out⟩
theorem qa24 {a b:List St} {p q:Bool}:(p && (a.length == b.length) && q && qd3 a b)=(p && q && qd3 a b):=by
 by_cases h:a.length=b.length
 ·simp [h]
 ·rw [qv16 h];simp
theorem qg20 (op:Int) (s:List UInt8) (v t:Int) (abs:Bool) (kids:List Ex) (steps:List St) (op':Int) (s':List UInt8) (v' t':Int) (abs':Bool) (kids':List Ex) (steps':List St) (w:World) (A1:Option Addr) (c1:Nat) (A2:Option Addr) (c2:Nat) (A1':Option Addr) (c1':Nat) (A2':Option Addr) (c2':Nat)
  (hcs:(∀ W,Below w.heap.size w W→Calls Am 35 #[Ad A1 kids.length c1,Ad A1' kids'.length c1',.func (.func 16) #[] #[]] W (qa11 W (qq1 kids kids')))∧(∀ W,Below w.heap.size w W→Calls Am 36 #[Ad A2 steps.length c2,Ad A2' steps'.length c2',.func (.func 34) #[] #[]] W (qa11 W (qd3 steps steps')))) :
  Calls Am 16 #[.agg #[Aa Ab op,Ac (ba s),Aa Ab v,Aa Ab t,Ae abs,Ad A1 kids.length c1,Ad A2 steps.length c2],.agg #[Aa Ab op',Ac (ba s'),Aa Ab v',Aa Ab t',Ae abs',Ad A1' kids'.length c1',Ad A2' steps'.length c2']] w (qa11 w (qx1 (.mk op s v t abs kids steps) (.mk op' s' v' t' abs' kids' steps'))):=by
 have HB2:=Aside0.mk (((Ao w.heap.size w).alloc (Ag _) (Af #[Aa Ab op,Ac (ba s),Aa Ab v,Aa Ab t,Ae abs,Ad A1 kids.length c1,Ad A2 steps.length c2] 28)).alloc (by simp) (Af #[Aa Ab op',Ac (ba s'),Aa Ab v',Aa Ab t',Ae abs',Ad A1' kids'.length c1',Ad A2' steps'.length c2'] 28));by_cases h_op:op=op';rotate_left
 ·rw [show qx1 (.mk op s v t abs kids steps) (.mk op' s' v' t' abs' kids' steps')=false by simp [qx1,h_op]];have eop:(op == op')=false:=by simp [h_op]
  have eop2:(op !=op')=true:=by simp [h_op]
  clear h_op hcs;go_enter Tryz.func16,Tryz.ntmps16;go_wp2_with fail
  go_ret;exact⟨rfl,HB2.out⟩
 by_cases h_s:s=s';rotate_left
 ·rw [show qx1 (.mk op s v t abs kids steps) (.mk op' s' v' t' abs' kids' steps')=false by simp [qx1,h_s]];have eop:(op == op')=true:=by simp [h_op]
  have eop2:(op !=op')=false:=by simp [h_op]
  have es:((ba s).toList == (ba s').toList)=false:=by rw [qm5];simp [h_s]
  have es2:((ba s).toList !=(ba s').toList)=true:=by unfold bne;rw [es];rfl
  clear h_op h_s hcs;go_enter Tryz.func16,Tryz.ntmps16;go_wp2_with fail
  go_ret;exact⟨rfl,HB2.out⟩
 by_cases h_v:v=v';rotate_left
 ·rw [show qx1 (.mk op s v t abs kids steps) (.mk op' s' v' t' abs' kids' steps')=false by simp [qx1,h_v]];have eop:(op == op')=true:=by simp [h_op]
  have eop2:(op !=op')=false:=by simp [h_op]
  have es:((ba s).toList == (ba s').toList)=true:=by rw [qm5];simp [h_s]
  have es2:((ba s).toList !=(ba s').toList)=false:=by unfold bne;rw [es];rfl
  have ev:(v == v')=false:=by simp [h_v]
  have ev2:(v !=v')=true:=by simp [h_v]
  clear h_op h_s h_v hcs;go_enter Tryz.func16,Tryz.ntmps16;go_wp2_with fail
  go_ret;exact⟨rfl,HB2.out⟩
 by_cases h_t:t=t';rotate_left
 ·rw [show qx1 (.mk op s v t abs kids steps) (.mk op' s' v' t' abs' kids' steps')=false by simp [qx1,h_t]];have eop:(op == op')=true:=by simp [h_op]
  have eop2:(op !=op')=false:=by simp [h_op]
  have es:((ba s).toList == (ba s').toList)=true:=by rw [qm5];simp [h_s]
  have es2:((ba s).toList !=(ba s').toList)=false:=by unfold bne;rw [es];rfl
  have ev:(v == v')=true:=by simp [h_v]
  have ev2:(v !=v')=false:=by simp [h_v]
  have et:(t == t')=false:=by simp [h_t]
  have et2:(t !=t')=true:=by simp [h_t]
  clear h_op h_s h_v h_t hcs;go_enter Tryz.func16,Tryz.ntmps16;go_wp2_with fail
  go_ret;exact⟨rfl,HB2.out⟩
 by_cases h_abs:abs=abs';rotate_left
 ·rw [show qx1 (.mk op s v t abs kids steps) (.mk op' s' v' t' abs' kids' steps')=false by simp [qx1,h_abs]];have eop:(op == op')=true:=by simp [h_op]
  have eop2:(op !=op')=false:=by simp [h_op]
  have es:((ba s).toList == (ba s').toList)=true:=by rw [qm5];simp [h_s]
  have es2:((ba s).toList !=(ba s').toList)=false:=by unfold bne;rw [es];rfl
  have ev:(v == v')=true:=by simp [h_v]
  have ev2:(v !=v')=false:=by simp [h_v]
  have et:(t == t')=true:=by simp [h_t]
  have et2:(t !=t')=false:=by simp [h_t]
  have eabs:(abs == abs')=false:=by simp [h_abs]
  have eabs2:(abs !=abs')=true:=by simp [h_abs]
  clear h_op h_s h_v h_t h_abs hcs;go_enter Tryz.func16,Tryz.ntmps16;go_wp2_with fail
  go_ret;exact⟨rfl,HB2.out⟩
 have eop:(op == op')=true:=by simp [h_op]
 have eop2:(op !=op')=false:=by simp [h_op]
 have es:((ba s).toList == (ba s').toList)=true:=by rw [qm5];simp [h_s]
 have es2:((ba s).toList !=(ba s').toList)=false:=by unfold bne;rw [es];rfl
 have ev:(v == v')=true:=by simp [h_v]
 have ev2:(v !=v')=false:=by simp [h_v]
 have et:(t == t')=true:=by simp [h_t]
 have et2:(t !=t')=false:=by simp [h_t]
 have eabs:(abs == abs')=true:=by simp [h_abs]
 have eabs2:(abs !=abs')=false:=by simp [h_abs]
 rw [show qx1 (.mk op s v t abs kids steps) (.mk op' s' v' t' abs' kids' steps')=(qq1 kids kids' && qd3 steps steps') by simp only [qx1];rw [qa24];simp [h_op,h_s,h_v,h_t,h_abs]];obtain⟨hk,hs⟩:=hcs;generalize qq1 kids kids'=R at *;generalize qd3 steps steps'=R2 at *;have HC:=Aside0.mk (hk _ HB2.out);have HD:=Aside0.mk hs;have hA:=qa (qm w (Af #[Aa Ab op,Ac (ba s),Aa Ab v,Aa Ab t,Ae abs,Ad A1 kids.length c1,Ad A2 steps.length c2] 28)) (Af #[Aa Ab op',Ac (ba s'),Aa Ab v',Aa Ab t',Ae abs',Ad A1' kids'.length c1',Ad A2' steps'.length c2'] 28);have hE:=qm (w.alloc (Af #[Aa Ab op,Ac (ba s),Aa Ab v,Aa Ab t,Ae abs,Ad A1 kids.length c1,Ad A2 steps.length c2] 28)) (Af #[Aa Ab op',Ac (ba s'),Aa Ab v',Aa Ab t',Ae abs',Ad A1' kids'.length c1',Ad A2' steps'.length c2'] 28);rw [show(w.alloc (Af #[Aa Ab op,Ac (ba s),Aa Ab v,Aa Ab t,Ae abs,Ad A1 kids.length c1,Ad A2 steps.length c2] 28)).heap.size=w.heap.size+1 by simp]at hE;have HA2:=Aside0.mk hA;have HE2:=Aside0.mk hE;clear hA hE hk hs h_op h_s h_v h_t h_abs;go_enter Tryz.func16,Tryz.ntmps16
 cases R with
 | false=>
  go_wp2_with fail
  refine HC.out.mono ?_;rintro e w3 ⟨rfl,b3⟩;have HB3:=Aside0.mk (HB2.out.trans (b3.mono HB2.out.size));clear b3;go_wp2_with fail
  go_ret;exact⟨rfl,HB3.out⟩
 | true=>
  cases R2 with
  | false=>
   go_wp2_with fail
   refine HC.out.mono ?_;rintro e w3 ⟨rfl,b3⟩;have HB3:=Aside0.mk (HB2.out.trans (b3.mono HB2.out.size));have HD3:=Aside0.mk (HD.out _ HB3.out);have ac6:=(Ai (qk HA2.out b3) 6).trans (show _=some (Ad A2 steps.length c2)from rfl);have bc6:=(Ai (qk HE2.out b3) 6).trans (show _=some (Ad A2' steps'.length c2')from rfl);clear b3;go_wp2_with fail
   refine HD3.out.mono ?_;rintro e w4 ⟨rfl,b4⟩;have HB4:=Aside0.mk (HB3.out.trans (b4.mono HB3.out.size));clear b4;go_wp2_with fail
   go_ret;exact⟨rfl,HB4.out⟩
  | true=>
   go_wp2_with fail
   refine HC.out.mono ?_;rintro e w3 ⟨rfl,b3⟩;have HB3:=Aside0.mk (HB2.out.trans (b3.mono HB2.out.size));have HD3:=Aside0.mk (HD.out _ HB3.out);have ac6:=(Ai (qk HA2.out b3) 6).trans (show _=some (Ad A2 steps.length c2)from rfl);have bc6:=(Ai (qk HE2.out b3) 6).trans (show _=some (Ad A2' steps'.length c2')from rfl);clear b3;go_wp2_with fail
   refine HD3.out.mono ?_;rintro e w4 ⟨rfl,b4⟩;have HB4:=Aside0.mk (HB3.out.trans (b4.mono HB3.out.size));clear b4;go_wp2_with fail
   go_ret;exact⟨rfl,HB4.out⟩
theorem qd24 (E:St) (hl:∀ x ∈ prOf E,qm16 x):SameT E:=by
 intro E2 w F G a k s b A1 n1 c1 a' k' s' b' A1' n1' c1' hR hR2 hw hw2;obtain⟨a0,k0,m0,h0,ps⟩:=E;obtain⟨a1,k1,m1,h1,qs⟩:=E2;obtain⟨rfl,rfl,rfl,rfl,rfl,zs,hz1,hz2⟩:=hR.inv5;obtain⟨rfl,rfl,rfl,rfl,rfl,ys,hy1,hy2⟩:=hR2.inv5;simp only [wfX]at hw hw2;exact qt22 _ _ _ _ _ _ _ _ _ _ w _ _ _ _ fun W hb=>eq_E ps hl qs W F G A1 c1 A1' c1' zs ys (hz1.keeps (Keeps.of_below hb)) (hz2.keeps (Keeps.of_below hb)) (hy1.keeps (Keeps.of_below hb)) (hy2.keeps (Keeps.of_below hb)) hw.2.2.2.2 hw2.2.2.2.2 hw.2.2.2.1 hw2.2.2.2.1
theorem qa18 (op:Int) (s:List UInt8) (v t:Int) (abs:Bool) (kids:List Ex) (steps:List St) (hk:∀ x ∈ kids,qm16 x) (hs:∀ st ∈ steps,∀ x ∈ prOf st,qm16 x):qm16 (.mk op s v t abs kids steps):=by
 intro E2 w F G op' s' d' t' b' A1 n1 c1 A2 n2 c2 op_ s_ d_ t_ b_ A1_ n1_ c1_ A2_ n2_ c2_ hR hR2 hw hw2;obtain⟨op2,s2,v2,t2,abs2,kids2,steps2⟩:=E2;obtain⟨rfl,rfl,rfl,rfl,rfl,rfl,_,⟨xs,hx1,hx2⟩,rfl,_,⟨ys,hy1,hy2⟩⟩:=hR.inv;obtain⟨rfl,rfl,rfl,rfl,rfl,rfl,_,⟨us,hu1,hu2⟩,rfl,_,⟨ts,ht1,ht2⟩⟩:=hR2.inv;simp only [wfE]at hw hw2;obtain⟨_,_,_,_,wl,ws,wk,wst⟩:=hw;obtain⟨_,_,_,_,wl2,ws2,wk2,wst2⟩:=hw2
 exact qg20 _ _ _ _ _ _ _ _ _ _ _ _ _ _ w _ _ _ _ _ _ _ _ ⟨fun W hb=>eq_E kids hk kids2 W F G A1 c1 A1_ c1_ xs us (hx1.keeps (Keeps.of_below hb)) (hx2.keeps (Keeps.of_below hb)) (hu1.keeps (Keeps.of_below hb)) (hu2.keeps (Keeps.of_below hb)) wk wk2 wl wl2,
  fun W hb=>eq_S steps (fun st hst=>qd24 st (hs st hst)) steps2 W F G A2 c2 A2_ c2_ ys ts (hy1.keeps (Keeps.of_below hb)) (hy2.keeps (Keeps.of_below hb)) (ht1.keeps (Keeps.of_below hb)) (ht2.keeps (Keeps.of_below hb)) wst wst2 ws ws2⟩
theorem qt7:∀ (n:Nat) (x:Ex),SizeOf.sizeOf x≤n→qm16 x
 | 0,.mk op s v t abs kids steps,h=>by simp at h
 | n+1,.mk op s v t abs kids steps,h=>by
  refine qa18 op s v t abs kids steps (fun x hx=>qt7 n x ?_) (fun st hst x hx=>qt7 n x ?_)
  ·have:=Bp hx;simp at h;omega
  ·obtain⟨a,b,c,d,ps⟩:=st;have h1:=Bp hst;have h2:=Bp (show x ∈ ps from hx);simp at h h1;omega
theorem qz13 (x:Ex):qm16 x:=qt7 _ x (Ag _)
end Go.Proofs.YtocdckniokhbbaaGreatDoor.Syn
namespace Go.Proofs.YtocdckniokhbbaaGreatDoor.Syn
open Go.RowKit Go.Shelf YtocdckniokhbbaaGreatDoorW.PrintWords YtocdckniokhbbaaGreatDoorW.PrintLast YtocdckniokhbbaaGreatDoorW.PrintMore CharB SpanA FigD LexA LexF
theorem Row.low {F:Nat→Prop} {w:World} {A:Option Addr} {xs:List Value} (h:Row F w A xs):Row (fun k=>k<w.heap.size) w A xs:=fun j u hu=>by
 obtain⟨a,h1,h2,h3,h4⟩:=h j u hu;exact⟨a,h1,h3,h3,h4⟩
mutual
theorem RepE.low {F:Nat→Prop} {w:World}:∀ {e:Ex} {cs:List Value},RepE F w e cs→RepE (fun k=>k<w.heap.size) w e cs
 | .mk _ _ _ _ _ kids steps,cs,h=>by
  simp only [RepE]at h ⊢;obtain⟨K,S,h1,⟨A,c,xs,h2,h3,h4,h5⟩,⟨A',c',xs',g2,g3,g4,g5⟩⟩:=h;exact⟨K,S,h1,⟨A,c,xs,h2,h3,RepR.low h4,Row.low h5⟩,⟨A',c',xs',g2,g3,RepT.low g4,Row.low g5⟩⟩
theorem RepR.low {F:Nat→Prop} {w:World}:∀ {l:List Ex} {xs:List Value},RepR F w l xs→RepR (fun k=>k<w.heap.size) w l xs
 | [],xs,h=>h
 | e :: l,xs,h=>by
  simp only [RepR]at h ⊢;obtain⟨cs,ys,h1,h2,h3⟩:=h;exact⟨cs,ys,h1,RepE.low h2,RepR.low h3⟩
theorem RepX.low {F:Nat→Prop} {w:World}:∀ {e:St} {cs:List Value},RepX F w e cs→RepX (fun k=>k<w.heap.size) w e cs
 | .mk _ _ _ _ preds,cs,h=>by
  simp only [RepX]at h ⊢;obtain⟨K,h1,A,c,xs,h2,h3,h4,h5⟩:=h;exact⟨K,h1,A,c,xs,h2,h3,RepR.low h4,Row.low h5⟩
theorem RepT.low {F:Nat→Prop} {w:World}:∀ {l:List St} {xs:List Value},RepT F w l xs→RepT (fun k=>k<w.heap.size) w l xs
 | [],xs,h=>h
 | e :: l,xs,h=>by
  simp only [RepT]at h ⊢;obtain⟨cs,ys,h1,h2,h3⟩:=h;exact⟨cs,ys,h1,RepX.low h2,RepT.low h3⟩
end
theorem Keeps.low {F:Nat→Prop} {p B:Nat} {w w':World} (h:Fr p B w w') (hF:∀ k,F k→k<p):Keeps F w w':=⟨h.1.size,fun k h1 _=>h.1.block k (hF k h1)⟩
theorem qb10 (w:World) {b k:Nat} (j:Nat) (v:Value) {o:Obj} (h:w.heap[k]?=some o) (hne:k≠b):(w.setCell ⟨b,j,none⟩ v).heap[k]?=some o:=(AS w ⟨b,j,none⟩ v k hne).trans h
mutual
def smE:Ex→Prop
 | .mk _ _ _ _ _ kids steps=>kids.length≤1000∧smL kids∧smS steps
def smL:List Ex→Prop
 | []=>True
 | e :: l=>smE e∧smL l
def smX:St→Prop
 | .mk _ _ _ _ preds=>preds.length≤1000∧smL preds
def smS:List St→Prop
 | []=>True
 | s :: l=>smX s∧smS l
end
theorem qy19:∀ {l:List Ex} {x:Ex},smL l→smE x→smL (l ++ [x])
 | [],x,_,h=>⟨h,trivial⟩
 | y :: l,x,h,k=>⟨h.1,qy19 h.2 k⟩
theorem qx19:∀ {l:List St} {x:St},smS l→smX x→smS (l ++ [x])
 | [],x,_,h=>⟨h,trivial⟩
 | y :: l,x,h,k=>⟨h.1,qx19 h.2 k⟩
theorem qr16 {l:List Ex} {i:Nat} {x:Ex} (h:smL (l.take i)) (hx:l[i]?=some x) (k:smE x):smL (l.take (i+1)):=by
 rw [List.take_add_one,hx];exact qy19 h k
theorem qy23 {l:List St} {i:Nat} {x:St} (h:smS (l.take i)) (hx:l[i]?=some x) (k:smX x):smS (l.take (i+1)):=by
 rw [List.take_add_one,hx];exact qx19 h k
theorem qz19 {l:List Ex} {i:Nat} (h:smL (l.take i)) (hi:¬ i<l.length):smL l:=by rwa [List.take_of_length_le (by omega)]at h
theorem smS_all {l:List St} {i:Nat} (h:smS (l.take i)) (hi:¬ i<l.length):smS l:=by rwa [List.take_of_length_le (by omega)]at h
def FewA (w:World) (p:Nat) (z:Int) (kids:List Ex) (steps:List St):Ending→World→Prop:=fun e w'=>∃ (b:Bool) (z':Int),e= .returned (Ae b)∧Fr p w.heap.size w w'∧w'.heap[p]?=some (Af #[Aa Ab z'] 3 (0,0))∧(b=true→0≤z'∧z'<z∧kids.length≤1000∧smL kids∧smS steps)
def qv21:Ex→List Ex
 | .mk _ _ _ _ _ k _=>k
def qt19:Ex→List St
 | .mk _ _ _ _ _ _ k=>k
theorem qa20 {x:Ex} (h:(qv21 x).length≤1000∧smL (qv21 x)∧smS (qt19 x)):smE x:=by
 obtain⟨_,_,_,_,_,_,_⟩:=x;simp only [smE];exact h
def FewC (E:Ex):Prop:=∀ (w:World) (p:Nat) (z deep:Int) (F:Nat→Prop) (op:Int) (s:ByteArray) (d t:Int) (b:Bool) (A1:Option Addr) (n1 c1:Nat) (A2:Option Addr) (n2 c2:Nat),RepE F w E [Aa Ab op,Ac s,Aa Ab d,Aa Ab t,Ae b,Ad A1 n1 c1,Ad A2 n2 c2]→(∀ k,F k→k<p)→w.heap[p]?=some (Af #[Aa Ab z] 3 (0,0))→wfE E→z≤1000→ -9223372036854775807≤z→Calls Am 33 #[.agg #[Aa Ab op,Ac s,Aa Ab d,Aa Ab t,Ae b,Ad A1 n1 c1,Ad A2 n2 c2],Aa Ab deep,.pointer (some ⟨p,0,none⟩)] w (FewA w p z (qv21 E) (qt19 E))
theorem qe26 (kids:List Ex) (steps:List St) (hk:∀ x ∈ kids,FewC x) (hs:∀ st ∈ steps,∀ x ∈ prOf st,FewC x) (w:World) (p:Nat) (z deep:Int) (F:Nat→Prop) (op:Int) (s:ByteArray) (d t:Int) (b:Bool) (A1:Option Addr) (c1:Nat) (A2:Option Addr) (c2:Nat) (xs ys:List Value) (hK:RepR F w kids xs) (hW:Row F w A1 xs) (hT:RepT F w steps ys) (hV:Row F w A2 ys) (wk:wfL kids) (wst:wfS steps) (wl:kids.length≤maxLen) (ws:steps.length≤maxLen) (hF:∀ k,F k→k<p) (hp:w.heap[p]?=some (Af #[Aa Ab z] 3 (0,0))) (hz1:z≤1000) (hz2: -9223372036854775807≤z) :
  Calls Am 33 #[.agg #[Aa Ab op,Ac s,Aa Ab d,Aa Ab t,Ae b,Ad A1 kids.length c1,Ad A2 steps.length c2],Aa Ab deep,.pointer (some ⟨p,0,none⟩)] w (FewA w p z kids steps):=by
 have HP:=Aside0.mk (show p<w.heap.size from(An.1 hp).1);have HF:=Aside0.mk hF;have HK:=Aside0.mk hk;have HS:=Aside0.mk hs;have HR:=Aside0.mk hK;have HW:=Aside0.mk hW;have HT:=Aside0.mk hT;have HV:=Aside0.mk hV;have HWk:=Aside0.mk wk;have HWs:=Aside0.mk wst;have HLen:=Aside0.mk (show kids.length≤9223372036854775807 by unfold maxLen at wl;omega);have HLen2:=Aside0.mk (show steps.length≤9223372036854775807 by unfold maxLen at ws;omega);have hp1:=qa hp (Af #[Aa Ab op,Ac s,Aa Ab d,Aa Ab t,Ae b,Ad A1 kids.length c1,Ad A2 steps.length c2] 28);have HPa:=Aside0.mk hp1;have pa:=(Ai hp1 0).trans (show _=some (Aa Ab z)from rfl);have pf:=qc hp1 0;obtain⟨zd,hzd⟩:∃ zd,wrap64 (z - 1)=zd:=⟨_,rfl⟩;have HZ:=Aside0.mk (show zd=z - 1∧z≤1000 from⟨by rw [← hzd];unfold wrap64;omega,hz1⟩);have HP0:=Aside0.mk (qh (cs':= #[Aa Ab zd]) hp1 0 (Aa Ab zd) rfl);have HE0:=Aside0.mk (qb10 (w.alloc (Af #[Aa Ab op,Ac s,Aa Ab d,Aa Ab t,Ae b,Ad A1 kids.length c1,Ad A2 steps.length c2] 28)) 0 (Aa Ab zd) (qm w (Af #[Aa Ab op,Ac s,Aa Ab d,Aa Ab t,Ae b,Ad A1 kids.length c1,Ad A2 steps.length c2] 28)) (show w.heap.size≠p from zv));have FR0:=Aside0.mk (((Fr.refl p w.heap.size w).alloc (Ag _) (Ah HP.out) (Af #[Aa Ab op,Ac s,Aa Ab d,Aa Ab t,Ae b,Ad A1 kids.length c1,Ad A2 steps.length c2] 28)).set (.inl rfl) (Ah HP.out) 0 (Aa Ab zd));clear hp hp1 hF hk hs hK hW hT hV wk wst wl ws hz1 hz2;by_cases hd:deep=0
 ·have e1:(deep == 0)=true:=by simp [hd]
  subst hd;go_enter Tryz.func33,Tryz.ntmps33;go_wp2_with fail
  go_ret;exact⟨_,_,rfl,FR0.out,HP0.out,fun h=>by cases h⟩
 have e1:(deep == 0)=false:=by simp [hd]
 clear hd;by_cases hz:zd<0
 ·have e2:decide (zd<0)=true:=by simp [hz]
  clear hz;go_enter Tryz.func33,Tryz.ntmps33;go_wp2_with fail
  go_ret;exact⟨_,_,rfl,FR0.out,HP0.out,fun h=>by cases h⟩
 have e2:decide (zd<0)=false:=by simp [hz]
 have HM0:Aside0 (0≤zd∧zd+((0:Nat):Int)≤zd∧smL (kids.take 0)):=⟨⟨by omega,by simp,by rw [List.take_zero];exact trivial⟩⟩;clear hz;go_enter Tryz.func33,Tryz.ntmps33;go_wp2_with fail
 go_loopg [7] kids.length (fun kq v7 w'=>∃ (i:Nat) (zz:Int),v7= Aa Ab (i:Int)∧Aside0 (kq+i=kids.length)∧Aside0 (Fr p w.heap.size w w')∧Aside0 (w'.heap[p]?=some (Af #[Aa Ab zz] 3 (0,0)))∧Aside0 (w'.heap[w.heap.size]?=some (Af #[Aa Ab op,Ac s,Aa Ab d,Aa Ab t,Ae b,Ad A1 kids.length c1,Ad A2 steps.length c2] 28 (0,0)))∧Aside0 (0≤zz∧zz+(i:Int)≤zd∧smL (kids.take i)))
 case atStart=>exact⟨0,zd,rfl,⟨rfl⟩,FR0,HP0,HE0,HM0⟩
 case round=>
  clear pa pf hzd e1 e2 HPa;obtain⟨i,zz,rfl,HI,FRr,HPr,HEr,HM⟩:=hrel;clear FR0 HP0 HE0 HM0;have ec5:=(Ai HEr.out 5).trans (show _=some (Ad A1 kids.length c1)from rfl);have ec6:=(Ai HEr.out 6).trans (show _=some (Ad A2 steps.length c2)from rfl);by_cases hi:i<kids.length
  ·obtain⟨x,hix⟩:∃ x,kids[i]?=some x:=⟨_,AH hi⟩;obtain⟨ax,opx,sx,dx,tx,bx,A1x,n1x,c1x,A2x,n2x,c2x,rfl,hFa,hba,hRx,x0,x1,x2,x3,x4,x5,x6⟩:=Row.exp (HR.out.keeps (Keeps.low FRr.out HF.out)) (HW.out.keeps (Keeps.low FRr.out HF.out)) i x hix;have hlt:decide ((i:Int)<(kids.length:Int))=true:=by simp;omega
   have h0i:(0:Int)≤(i:Int):=by omega
   have hil:(i:Int)<(kids.length:Int):=by omega
   have hwi:wrap64 ((i:Int)+1)=((i+1:Nat):Int):=by have:=HLen.out;unfold wrap64;omega
   have hmx:x ∈ kids:=Bd hix;have hc:=HK.out x hmx wr p zz (wrap64 (deep - 1)) F _ _ _ _ _ _ _ _ _ _ _ hRx HF.out HPr.out (qn6 HWk.out hmx) (by have:=HM.out;have:=HZ.out;omega) (by have:=HM.out;omega);have HIX:=Aside0.mk hix;clear hix hmx hRx;go_wp2_with fail
   refine hc.mono ?_;rintro e w3 ⟨b3,z3,rfl,fr3,hp3,hm3⟩;have FR3:=Aside0.mk (Fr.chain FRr.out fr3 (by have:=FRr.out.1.size;omega) (Ah HP.out));have HP3:=Aside0.mk hp3;have HQ3:=Aside0.mk hm3;have HE3:=Aside0.mk (Fr.get fr3 HEr.out zv);clear fr3 hp3 hm3;clear hc ec5 ec6 x0 x1 x2 x3 x4 x5 x6
   cases b3 with
   | false=>
    go_wp2_with fail
    go_ret;exact⟨_,_,rfl,FR3.out,HP3.out,fun h=>by cases h⟩
   | true=>
    have HM3:=Aside0.mk (show 0≤z3∧z3+((i+1:Nat):Int)≤zd∧smL (kids.take (i+1)) by obtain⟨q1,q2,q3⟩:=HQ3.out rfl;obtain⟨q4,q5,q6⟩:=HM.out;exact⟨q1,by omega,qr16 q6 HIX.out (qa20 q3)⟩);go_wp2_with fail
    obtain⟨g2,rfl⟩:∃ g2,gk=g2+1:=⟨gk - 1,zax⟩;go_roundg g2
    case measure=>omega
    case rel=>exact⟨i+1,_,congrArg (Value.int .i64) hwi,⟨zax⟩,FR3,HP3,HE3,HM3⟩
  ·have hlt:decide ((i:Int)<(kids.length:Int))=false:=by simp;omega
   have hlt2:decide (i<kids.length)=false:=by simp;omega
   have FR5:=FRr;have HP5:=HPr;have HE5:=HEr;have HKs:=Aside0.mk (qz19 HM.out.2.2 hi);have HM5:Aside0 (-((0:Nat):Int)≤zz∧zz+((0:Nat):Int)+(kids.length:Int)≤zd∧smS (steps.take 0)):=⟨by obtain⟨q1,q2,q3⟩:=HM.out;have:=HI.out;exact⟨by omega,by omega,by rw [List.take_zero];exact trivial⟩⟩;clear FRr HPr HEr HI HM hi;go_wp2_with fail
   go_loopg [8] steps.length (fun kq v8 w'=>∃ (m:Nat) (zz:Int),v8= Aa Ab (m:Int)∧Aside0 (kq+m=steps.length)∧Aside0 (Fr p w.heap.size w w')∧Aside0 (w'.heap[p]?=some (Af #[Aa Ab zz] 3 (0,0)))∧Aside0 (w'.heap[w.heap.size]?=some (Af #[Aa Ab op,Ac s,Aa Ab d,Aa Ab t,Ae b,Ad A1 kids.length c1,Ad A2 steps.length c2] 28 (0,0)))∧Aside0 (-(m:Int)≤zz∧zz+(m:Int)+(kids.length:Int)≤zd∧smS (steps.take m)))
   case atStart=>exact⟨0,_,rfl,⟨rfl⟩,FR5,HP5,HE5,HM5⟩
   case round=>
    obtain⟨m,zz,rfl,HI,FRr,HPr,HEr,HM⟩:=hrel;clear FR5 HP5 HE5 HM5 ec5 ec6 hlt hlt2;have dc5:=(Ai HEr.out 5).trans (show _=some (Ad A1 kids.length c1)from rfl);have dc6:=(Ai HEr.out 6).trans (show _=some (Ad A2 steps.length c2)from rfl);by_cases hi:m<steps.length
    ·obtain⟨st,hms⟩:∃ st,steps[m]?=some st:=⟨_,AH hi⟩;obtain⟨sa,sk,sn,sh,ps⟩:=st;have HMs:=Aside0.mk hms;have hws:=qn7 HWs.out (Bd hms);simp only [wfX]at hws;have HWp:=Aside0.mk hws.2.2.2.2;have HLen3:=Aside0.mk (show ps.length≤9223372036854775807 by have:=hws.2.2.2.1;unfold maxLen at this;omega);clear hws hms;have hlt:decide ((m:Int)<(steps.length:Int))=true:=by simp;omega
     have h0m:(0:Int)≤(m:Int):=by omega
     have hml:(m:Int)<(steps.length:Int):=by omega
     have hwm:wrap64 ((m:Int)+1)=((m+1:Nat):Int):=by have:=HLen2.out;unfold wrap64;omega
     have pcp:=(Ai HPr.out 0).trans (show _=some (Aa Ab zz)from rfl);have pcf:=qc HPr.out 0;have HMm:=HM;clear HM;have HIlt:=Aside0.mk hi;obtain⟨ze,hze⟩:∃ ze,wrap64 (zz - 1)=ze:=⟨_,rfl⟩;have HM8z:=Aside0.mk (show ze=zz - 1 by rw [← hze];clear hwm;have q1:=HMm.out.1;have q2:=HMm.out.2.1;have q3:=HLen2.out;have q4:=HZ.out;unfold wrap64;omega);have HM8:Aside0 (-(m:Int) - 1≤ze∧ze+((0:Nat):Int)≤ze∧smL (ps.take 0)∧(0<0→0≤ze)):=⟨⟨by clear hwm hze;have:=HM8z.out;have:=HMm.out.1;omega,by simp,by rw [List.take_zero];exact trivial,fun h=>absurd h (by omega)⟩⟩;have HP8:=Aside0.mk (qh (cs':= #[Aa Ab ze]) HPr.out 0 (Aa Ab ze) rfl);have HE8:=Aside0.mk (qb10 wr 0 (Aa Ab ze) HEr.out (show w.heap.size≠p from zv));have FR8:=Aside0.mk (FRr.out.set (.inl rfl) (Ah HP.out) 0 (Aa Ab ze));have HIm:=HI;clear HI;go_wp2_with fail
     go_loopg [9] ps.length (fun kq v9 w'=>∃ (j:Nat) (zz:Int),v9= Aa Ab (j:Int)∧Aside0 (kq+j=ps.length)∧Aside0 (Fr p w.heap.size w w')∧Aside0 (w'.heap[p]?=some (Af #[Aa Ab zz] 3 (0,0)))∧Aside0 (w'.heap[w.heap.size]?=some (Af #[Aa Ab op,Ac s,Aa Ab d,Aa Ab t,Ae b,Ad A1 kids.length c1,Ad A2 steps.length c2] 28 (0,0)))∧Aside0 (-(m:Int) - 1≤zz∧zz+(j:Int)≤ze∧smL (ps.take j)∧(0<j→0≤zz)))
     case atStart=>exact⟨0,ze,rfl,⟨rfl⟩,FR8,HP8,HE8,HM8⟩
     case round=>
      obtain⟨j,zz,rfl,HI,FRr,HPr,HEr,HM⟩:=hrel;clear FR8 HP8 HE8 HM8 hze dc5 dc6 pcp pcf;have fc5:=(Ai HEr.out 5).trans (show _=some (Ad A1 kids.length c1)from rfl);have fc6:=(Ai HEr.out 6).trans (show _=some (Ad A2 steps.length c2)from rfl);obtain⟨gq,aq,kq,sq,bq,A1q,n1q,c1q,hA2,hFs,hbs,hRs,y0,y1,y2,y3,y4⟩:=Row.st (HT.out.keeps (Keeps.low FRr.out HF.out)) (HV.out.keeps (Keeps.low FRr.out HF.out)) m (.mk sa sk sn sh ps) HMs.out;obtain⟨rfl,rfl,rfl,rfl,rfl,zs,hz1,hz2⟩:=hRs.inv5
      cases hA2
      by_cases hj:j<ps.length
      ·obtain⟨x,hjx⟩:∃ x,ps[j]?=some x:=⟨_,AH hj⟩;obtain⟨ax,opx,sx,dx,tx,bx,A1x,n1x,c1x,A2x,n2x,c2x,rfl,hFa,hba,hRx,x0,x1,x2,x3,x4,x5,x6⟩:=Row.exp hz1 hz2 j x hjx;have hltj:decide ((j:Int)<(ps.length:Int))=true:=by simp;omega
       have h0j:(0:Int)≤(j:Int):=by omega
       have hjl:(j:Int)<(ps.length:Int):=by omega
       have hwj:wrap64 ((j:Int)+1)=((j+1:Nat):Int):=by have:=HLen3.out;unfold wrap64;omega
       have hmx:x ∈ ps:=Bd hjx;have hc:=HS.out _ (Bd HMs.out) x hmx wr p zz (wrap64 (deep - 1)) F _ _ _ _ _ _ _ _ _ _ _ hRx HF.out HPr.out (qn6 HWp.out hmx) (by have:=HM.out;have:=HM8z.out;have:=HMm.out;have:=HZ.out;omega) (by have:=HM.out;have:=HLen2.out;have:=HIlt.out;omega);have HJX:=Aside0.mk hjx;clear hjx hmx hRx hRs hz1 hz2;go_wp2_with fail
       refine hc.mono ?_;rintro e w3 ⟨b3,z3,rfl,fr3,hp3,hm3⟩;have FR3:=Aside0.mk (Fr.chain FRr.out fr3 (by have:=FRr.out.1.size;omega) (Ah HP.out));have HP3:=Aside0.mk hp3;have HQ3:=Aside0.mk hm3;have HE3:=Aside0.mk (Fr.get fr3 HEr.out zv);clear fr3 hp3 hm3;clear hc fc5 fc6 x0 x1 x2 x3 x4 x5 x6 y0 y1 y2 y3 y4
       cases b3 with
       | false=>
        go_wp2_with fail
        go_ret;exact⟨_,_,rfl,FR3.out,HP3.out,fun h=>by cases h⟩
       | true=>
        have HM3:=Aside0.mk (show -(m:Int) - 1≤z3∧z3+((j+1:Nat):Int)≤ze∧smL (ps.take (j+1))∧(0<j+1→0≤z3) by obtain⟨q1,q2,q3⟩:=HQ3.out rfl;obtain⟨q4,q5,q6,_⟩:=HM.out;exact⟨by omega,by omega,qr16 q6 HJX.out (qa20 q3),fun _=>q1⟩);go_wp2_with fail
        obtain⟨g2,rfl⟩:∃ g2,gk=g2+1:=⟨gk - 1,zax⟩;go_roundg g2
        case measure=>omega
        case rel=>exact⟨j+1,_,congrArg (Value.int .i64) hwj,⟨zax⟩,FR3,HP3,HE3,HM3⟩
      ·have hltj:decide ((j:Int)<(ps.length:Int))=false:=by simp;omega
       have hltj2:decide (j<ps.length)=false:=by simp;omega
       clear hRs hz1 hz2;have HM9:=Aside0.mk (show -((m+1:Nat):Int)≤zz∧zz+((m+1:Nat):Int)+(kids.length:Int)≤zd∧smS (steps.take (m+1)) by clear hwm;obtain⟨q1,q2,q3,q4⟩:=HM.out;obtain⟨q5,q6,q7⟩:=HMm.out;have q8:=HM8z.out;have q9:=HZ.out;have q10:=HI.out;exact⟨by omega,by omega,qy23 q7 HMs.out (by simp only [smX];exact⟨by by_cases h0:0<j;(have:=q4 h0;omega);omega,qz19 q3 hj⟩)⟩);go_wp2_with fail
       obtain⟨g3,hg3⟩:∃ g3,g3+1+m=steps.length:=⟨steps.length - (m+1),by clear hwm;omega⟩;go_roundg g3
       case measure=>have:=HIm.out;omega
       case rel=>exact⟨m+1,_,congrArg (Value.int .i64) hwm,⟨by clear hwm;omega⟩,FRr,HPr,HEr,HM9⟩
    ·have hlt:decide ((m:Int)<(steps.length:Int))=false:=by simp;omega
     have hlt2:decide (m<steps.length)=false:=by simp;omega
     have pcp:=(Ai HPr.out 0).trans (show _=some (Aa Ab zz)from rfl);have pcf:=qc HPr.out 0;go_wp2_with fail
     go_ret;exact⟨_,_,rfl,FRr.out,HPr.out,fun hb=>by have hb:=of_decide_eq_true hb;obtain⟨q1,q2,q3⟩:=HM.out;have q4:=HZ.out;have q5:=HI.out;exact⟨by omega,by omega,by omega,HKs.out,smS_all q3 hi⟩⟩
theorem qc16:∀ (n:Nat) (x:Ex),SizeOf.sizeOf x≤n→FewC x
 | 0,.mk op s v t abs kids steps,h=>by simp at h
 | n+1,.mk op s v t abs kids steps,h=>by
  intro w p z deep F op' s' d' t' b' A1 n1 c1 A2 n2 c2 hR hF hp hw hz1 hz2;obtain⟨rfl,rfl,rfl,rfl,rfl,rfl,_,⟨xs,hx1,hx2⟩,rfl,_,⟨ys,hy1,hy2⟩⟩:=hR.inv;simp only [wfE]at hw;obtain⟨_,_,_,_,wl,ws,wk,wst⟩:=hw;refine qe26 kids steps (fun x hx=>qc16 n x ?_) (fun st hst x hx=>qc16 n x ?_) w p z deep F _ _ _ _ _ _ _ _ _ xs ys hx1 hx2 hy1 hy2 wk wst wl ws hF hp hz1 hz2
  ·have:=Bp hx;simp at h;omega
  ·obtain⟨a,b,c,d,ps⟩:=st;have h1:=Bp hst;have h2:=Bp (show x ∈ ps from hx);simp at h h1;omega
theorem fewC (x:Ex):FewC x:=qc16 _ x (Ag _)
theorem qc23 (E:Ex) (w:World) (F:Nat→Prop) (op:Int) (s:ByteArray) (d t:Int) (b:Bool) (A1:Option Addr) (n1 c1:Nat) (A2:Option Addr) (n2 c2:Nat) (hR:RepE F w E [Aa Ab op,Ac s,Aa Ab d,Aa Ab t,Ae b,Ad A1 n1 c1,Ad A2 n2 c2]) (hw:wfE E):Calls Am 15 #[.agg #[Aa Ab op,Ac s,Aa Ab d,Aa Ab t,Ae b,Ad A1 n1 c1,Ad A2 n2 c2]] w (fun e w'=>∃ b:Bool,e= .returned (Ae b)∧Below w.heap.size w w'∧(b=true→smE E)):=by
 have HB2:=Aside0.mk (((Ao w.heap.size w).alloc (Ag _) (Af #[Aa Ab op,Ac s,Aa Ab d,Aa Ab t,Ae b,Ad A1 n1 c1,Ad A2 n2 c2] 28)).alloc (by simp) (Af #[Aa Ab 1000] 3));have hE:=qm (w.alloc (Af #[Aa Ab op,Ac s,Aa Ab d,Aa Ab t,Ae b,Ad A1 n1 c1,Ad A2 n2 c2] 28)) (Af #[Aa Ab 1000] 3);rw [show(w.alloc (Af #[Aa Ab op,Ac s,Aa Ab d,Aa Ab t,Ae b,Ad A1 n1 c1,Ad A2 n2 c2] 28)).heap.size=w.heap.size+1 by simp]at hE;have HC:=Aside0.mk (fewC E ((w.alloc (Af #[Aa Ab op,Ac s,Aa Ab d,Aa Ab t,Ae b,Ad A1 n1 c1,Ad A2 n2 c2] 28)).alloc (Af #[Aa Ab 1000] 3)) (w.heap.size+1) 1000 200 _ op s d t b A1 n1 c1 A2 n2 c2 (hR.low.keeps (Keeps.of_below HB2.out)) (fun k hk=>Nat.lt_succ_of_lt hk) hE hw (by omega) (by omega));have hA:=qa (qm w (Af #[Aa Ab op,Ac s,Aa Ab d,Aa Ab t,Ae b,Ad A1 n1 c1,Ad A2 n2 c2] 28)) (Af #[Aa Ab 1000] 3);obtain⟨ac0,ac1,ac2,ac3,ac4,ac5,ac6⟩:=fc7 hA;clear hR hw hE hA;go_enter Tryz.func15,Tryz.ntmps15;go_wp2_with fail
 refine HC.out.mono ?_;rintro e w3 ⟨b3,z3,rfl,fr3,_,hm⟩;have HB3:=Aside0.mk (HB2.out.trans (fr3.1.mono (Nat.le_succ _)));have HM:=Aside0.mk (show b3=true→smE E from fun h=>qa20 (hm h).2.2);clear fr3 hm;go_wp2_with fail
 go_ret;exact⟨_,rfl,HB3.out,HM.out⟩
theorem qp17 (E:Ex) (w:World) (F:Nat→Prop) (op:Int) (s:ByteArray) (d t:Int) (b:Bool) (A1:Option Addr) (n1 c1:Nat) (A2:Option Addr) (n2 c2:Nat) (hR:RepE F w E [Aa Ab op,Ac s,Aa Ab d,Aa Ab t,Ae b,Ad A1 n1 c1,Ad A2 n2 c2]) (hw:wfE E):Calls Am 15 #[.agg #[Aa Ab op,Ac s,Aa Ab d,Aa Ab t,Ae b,Ad A1 n1 c1,Ad A2 n2 c2]] w (fun e w'=>∃ b:Bool,e= .returned (Ae b)∧Below w.heap.size w w'):=
 (qc23 E w F op s d t b A1 n1 c1 A2 n2 c2 hR hw).mono fun e w' ⟨b,h1,h2,_⟩=>⟨b,h1,h2⟩
end Go.Proofs.YtocdckniokhbbaaGreatDoor.Syn
namespace Go.Proofs.YtocdckniokhbbaaGreatDoor.Syn
open Go.RowKit Go.Shelf YtocdckniokhbbaaGreatDoorW.PrintWords YtocdckniokhbbaaGreatDoorW.PrintLast YtocdckniokhbbaaGreatDoorW.PrintMore CharB SpanA FigD FigI LexA LexF
def wkT:List UInt8:=[49,32,45,32,50,32,45,32,51]
def qd20:Bool:=match qv1 wkT with
 | (.mk op _ _ _ _ [.mk a _ _ _ _ _ _,.mk _ _ v t _ _ _] _,n)=>n == 0 && op == 10 && a == 10 && v == 0 && t == 3000000
 | _=>false
theorem wk_ok:qd20=true:=by decide +kernel
theorem wk_at:∃ s v t b steps s1 v1 t1 b1 k1 st1 c s2 b2 k2 st2,qv1 wkT=(.mk 10 s v t b [.mk 10 s1 v1 t1 b1 k1 st1,.mk c s2 0 3000000 b2 k2 st2] steps,0):=by
 have h:=wk_ok;unfold qd20 at h
 split at h
 ·rename_i op s v t b a s1 v1 t1 b1 k1 st1 c s2 v2 t2 b2 k2 st2 steps n heq
  simp only [AK,beq_iff_eq]at h;obtain⟨⟨⟨⟨rfl,rfl⟩,rfl⟩,rfl⟩,rfl⟩:=h;exact⟨s,v,t,b,steps,s1,v1,t1,b1,k1,st1,c,s2,b2,k2,st2,heq⟩
 ·cases h
theorem qb15 (HP:qo17) (w:World) (hT:ql7 w):Calls Am 11 #[] w fun e w'=>e= .returned (Ae true)∧Below w.heap.size w w':=by
 obtain⟨s,v,t,b,steps,s1,v1,t1,b1,k1,st1,c,s2,b2,k2,st2,hw⟩:=wk_at;have hc:=HP ⟨#[49,32,45,32,50,32,45,32,51]⟩ w hT (by show 9≤_;omega);rw [show(⟨#[49,32,45,32,50,32,45,32,51]⟩:ByteArray).data.toList=wkT from rfl,hw]at hc;clear hw hT HP;go_enter Tryz.func11,Tryz.ntmps11;go_wp2_with fail
 refine hc.mono ?_;rintro e w1 ⟨u,rfl,hE,b1⟩;obtain⟨F,op',s',d',t',b',A1,n1,c1,A2,n2,c2,rfl,hR,hF⟩:=hE.open;obtain⟨rfl,_,_,_,_,rfl,_,⟨xs,hK,hW⟩,_,_,_⟩:=hR.inv;obtain⟨a,op0,s0,t0,v0,b0,A10,n10,c10,A20,n20,c20,rfl,_,_,h0,x0,x1,x2,x3,x4,x5,x6⟩:=Row.exp0 hK hW _ rfl;obtain⟨_,op3,s3,t3,v3,b3,A13,n13,c13,A23,n23,c23,ha,_,_,h3,y0,y1,y2,y3,y4,y5,y6⟩:=Row.exp1 hK hW _ rfl
 cases ha
 obtain⟨rfl,_,_,_,_,_⟩:=h0.inv;obtain⟨_,_,rfl,rfl,_,_⟩:=h3.inv;have HB:=Aside0.mk b1;clear b1 hK hW h0 h3 hR hE hF;go_wp2_with fail
 go_ret;exact⟨rfl,HB.out.alloc HB.out.size _⟩
end Go.Proofs.YtocdckniokhbbaaGreatDoor.Syn
