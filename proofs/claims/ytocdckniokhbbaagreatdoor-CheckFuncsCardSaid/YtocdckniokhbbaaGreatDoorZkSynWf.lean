import Derived.Test.YtocdckniokhbbaaGreatDoorZkZz
import Derived.Test.YtocdckniokhbbaaGreatDoorZkFc
import Derived.Test.YtocdckniokhbbaaGreatDoorZkPrD
import Derived.Test.YtocdckniokhbbaaGreatDoorZkSynPp
import Derived.Test.YtocdckniokhbbaaGreatDoorZkSynS
set_option linter.unusedVariables false
set_option linter.unusedSimpArgs false
open Go.ByteArray renaming toList_eq→Aq
open Go.Value renaming string→Ac,slice→Ad,bool→Ae,int→Aa
open Go.Proofs.Tryz renaming prog→Aj
open Bool renaming false_and→AN
open List renaming sizeOf_lt_of_mem→BR,length_nil→A8,length_append→Ar,length_singleton→Bj,length_cons→AK
open Nat renaming le_refl→Ag,zero_le→Ba,le_of_lt→Ah
open Go.IntKind renaming i64→Ab
open Go.Obj renaming cells→Af
open Go.Lib renaming cell_of_heap→Ai
open Go.World renaming setCell→At
open Go.RowKit.Below renaming refl→Ao,setCell→Au,drew→AQ
open Go.Instr renaming makeFunc→Be
set_option maxHeartbeats 8000000
set_option maxRecDepth 100000
namespace Go.Proofs.YtocdckniokhbbaaGreatDoor.Syn
open Go.RowKit Go.Shelf YtocdckniokhbbaaGreatDoorW.PrintWords YtocdckniokhbbaaGreatDoorW.PrintLast YtocdckniokhbbaaGreatDoorW.PrintMore CharB SpanA FigD FigI LexA LexF
theorem qy16 (t v:Int):PF.dec_Right.f t v=some (decE t v):=by
 unfold PF.dec_Right.f decE;by_cases h0:t=0
 ·rw [if_pos h0,if_pos h0];rfl
 ·rw [if_neg h0,if_neg h0];by_cases h:t=1∨t=2∨t=3
  ·rw [if_pos h]
   rcases h with rfl | rfl | rfl<;>rfl
  ·rw [if_neg h,if_neg (by omega),if_neg (by omega),if_neg (by omega)]
theorem qz17 (s:ByteArray):PS.print_typed.f s=some (typesN.contains s.toList):=by
 unfold PS.print_typed.f typesN;generalize s.toList=l;by_cases h1:l= [99,111,109,109,101,110,116]
 ·rw [if_pos h1,h1];rfl
 rw [if_neg h1];by_cases h2:l= [116,101,120,116]
 ·rw [if_pos h2,h2];rfl
 rw [if_neg h2];by_cases h3:l= [112,114,111,99,101,115,115,105,110,103,45,105,110,115,116,114,117,99,116,105,111,110]
 ·rw [if_pos h3,h3];rfl
 rw [if_neg h3];simp only [List.contains_cons,List.contains_nil,Bool.or_false,qi2,qj7,tPI];rw [beq_eq_false_iff_ne.mpr h1,beq_eq_false_iff_ne.mpr h2,beq_eq_false_iff_ne.mpr h3];simp
theorem rt_step (op:Int) (s:List UInt8) (v t:Int) (abs:Bool) (kids:List Ex) (steps:List St) (hk:∀ x ∈ kids,RtC x) (hs:∀ st ∈ steps,∀ x ∈ qq11 st,RtC x):RtC (.mk op s v t abs kids steps):=by
 intro w F op' s' t' v' b' A1 n1 c1 A2 n2 c2 hTab hR hw;obtain⟨e1,e2,e3,e4,e5,e6,hcap,⟨xs,hK,hW⟩,e7,hcap2,⟨ys,hT,hV⟩⟩:=hR.inv;subst e1 e2 e3 e4 e5 e6 e7;simp only [wfE]at hw;obtain⟨_,_,_,wsz,wl,ws,wk,wst⟩:=hw;have htl:(ba s).toList=s:=by rw [Aq];exact qe1 s
 have hsz:(ba s).size≤9223372036854775807:=by rw [qs1];unfold maxLen at wsz;omega
 have ha:∀ W,Below w.heap.size w W→Calls Aj 68 #[Ad A1 kids.length c1] W (fun e w'=>e= .returned (Ae (qx9 kids))∧Below W.heap.size W w'):=fun W hb=>qg7 kids hk W (qj1 hTab hb) F A1 c1 xs (hK.keeps (Keeps.of_below hb)) (hW.keeps (Keeps.of_below hb)) wk wl;have hf:=fun (x y z:Bool) W (_:Below w.heap.size w W)=>qp14 op' (ba s) t' v' b' A1 kids.length c1 A2 steps.length c2 x y z W;simp only [htl]at hf;have hN:∀ W,Below w.heap.size w W→Calls Aj 66 #[Ac (ba s)] W (fun e w'=>e= .returned (Ae (qf4 (ba s)))∧Below W.heap.size W w'):=fun W hb=>qu5 (ba s) W (qj1 hTab hb);have hX:∀ W,Below w.heap.size w W→Calls Aj 64 #[Ac (ba s)] W (fun e w'=>e= .returned (Ae (qe6 s))∧Below W.heap.size W w'):=fun W hb=>by have:=qv10 (ba s) W (qj1 hTab hb) hsz;rwa [qe1]at this
 simp only [qt3];by_cases q1:1≤op'∧op'≤14
 ·rw [if_pos q1];exact qw18 w op' (ba s) t' v' b' A1 kids.length c1 A2 steps.length c2 q1.1 q1.2 _ (hf false false false) _ ha
 rw [if_neg q1];by_cases q15:op'=15
 ·subst q15;rw [if_pos rfl];exact qv18 w (ba s) t' v' b' A1 kids.length c1 A2 steps.length c2 _ (hf false false false) _ ha
 rw [if_neg q15];by_cases q16:op'=16
 ·subst q16;rw [if_pos rfl];exact qc16 w (ba s) t' v' b' A1 kids.length c1 A2 steps.length c2 _ (hf false false true) _ (fun W hb=>qi16 steps hs W (qj1 hTab hb) F 16 (ba s) t' v' b' A1 kids.length c1 A2 c2 ys (hT.keeps (Keeps.of_below hb)) (hV.keeps (Keeps.of_below hb)) wst ws) _ ha
 rw [if_neg q16];by_cases q17:op'=17
 ·subst q17;rw [if_pos rfl];exact qw12 w (ba s) t' v' b' A1 kids.length c1 A2 steps.length c2 _ (hf false false false) _ ha
 rw [if_neg q17];by_cases q18:op'=18
 ·subst q18;rw [if_pos rfl];exact qx18 w (ba s) t' v' b' A1 kids.length c1 A2 steps.length c2 _ (hf true false false) _ hX _ ha
 rw [if_neg q18];by_cases q19:op'=19
 ·subst q19;rw [if_pos rfl];exact qu18 w (ba s) t' v' b' A1 kids.length c1 A2 steps.length c2 _ (hf false true false) _ (fun W hb=>PF.dec_Right.calls t' v' _ W (qy16 t' v')) _ ha
 rw [if_neg q19];by_cases q21:op'=21
 ·subst q21;rw [if_pos rfl];exact qt18 w (ba s) t' v' b' A1 kids.length c1 A2 steps.length c2 _ (hf true false false) _ hN _ ha
 rw [if_neg q21];by_cases q20:op'=20
 ·subst q20;rw [if_pos rfl];refine qe16 w (ba s) t' v' b' A1 kids.length c1 A2 steps.length c2 _ (hf true false false) _ hN (!typesN.contains s) (fun W hb=>?_) _ ha;have:=PS.print_typed.calls (ba s) _ W (qz17 (ba s));rw [htl]at this;rw [Bool.not_not];exact this.mono fun e w' h=>⟨h.1,h.2.below⟩
 ·rw [if_neg q20,AN];exact qd16 w op' (ba s) t' v' b' A1 kids.length c1 A2 steps.length c2 (by omega)
theorem qs18:∀ (n:Nat) (x:Ex),SizeOf.sizeOf x≤n→RtC x
 | 0,.mk op s v t abs kids steps,h=>by simp at h
 | n+1,.mk op s v t abs kids steps,h=>by
  refine rt_step op s v t abs kids steps (fun x hx=>qs18 n x ?_) (fun st hst x hx=>qs18 n x ?_)
  ·have:=BR hx;simp at h;omega
  ·obtain⟨a,b,c,d,ps⟩:=st;have h1:=BR hst;have h2:=BR (show x ∈ ps from hx);simp at h h1;omega
theorem rtC_all (x:Ex):RtC x:=qs18 _ x (Ag _)
end Go.Proofs.YtocdckniokhbbaaGreatDoor.Syn
namespace Go.Proofs.YtocdckniokhbbaaGreatDoor.Syn
open Go.RowKit Go.Shelf YtocdckniokhbbaaGreatDoorW.PrintWords YtocdckniokhbbaaGreatDoorW.PrintLast YtocdckniokhbbaaGreatDoorW.PrintMore CharB SpanA FigD FigI LexA LexF
theorem qn7 {P:Program} {fn:Func} {p q:Tmp} {ty ty2:TypeId} (h:fn.results= #[.cell p ty,.cell q ty2]) (tmps:Array Value) (w:World) (g1:Nat) (v1:Value) (g2:Nat) (v2:Value)
  (hp:tmps.getD p undef= .pointer (some ⟨g1,0,none⟩)) (h1:(loadVar ty ⟨g1,0,none⟩).run P w= .ok v1 w) (hq:tmps.getD q undef= .pointer (some ⟨g2,0,none⟩)) (h2:(loadVar ty2 ⟨g2,0,none⟩).run P w= .ok v2 w):(results fn tmps).run P w= .ok (.tuple #[v1,v2]) w:=by
 have hp':tmps[p]?.getD undef= .pointer (some ⟨g1,0,none⟩):=by simpa using hp
 have hq':tmps[q]?.getD undef= .pointer (some ⟨g2,0,none⟩):=by simpa using hq
 simp [results,h,hp',hq',asAddr,h1,h2]
theorem qw11 (w:World) (g:Nat) (n:Int) (h:w.heap[g]?=some (Af #[Aa Ab n] 3 (0,0))):(loadVar 3 ⟨g,0,none⟩).run Aj w= .ok (Aa Ab n) w:=by
 have hc:w.cell? ⟨g,0,none⟩=some (Aa Ab n):=(Ai h 0).trans rfl;simp [loadVar,go_sem,hc]
def qm21:Prop:=∀ (bt be:Nat) (w:World) (t0 e0 n:Int),bt≠be→w.heap[bt]?=some (Af #[Aa Ab t0] 3 (0,0))→w.heap[be]?=some (Af #[Aa Ab e0] 29 (0,0)) →
  CallsD Aj 38 #[.pointer (some ⟨bt,0,none⟩),.pointer (some ⟨be,0,none⟩)] (.panicking [{v:= .iface 80 (.agg #[Aa Ab n]),recovered:=false}]) w fun e u' w'=>
   e= .returned (.tuple #[])∧u'= .panicking [{v:= .iface 80 (.agg #[Aa Ab n]),recovered:=true}]∧w'=(At (At (w.alloc (Af #[Aa Ab n] 80)) ⟨bt,0,none⟩ (Aa Ab 0)) ⟨be,0,none⟩ (Aa Ab n)).drew
def ql21:Prop:=∀ (bt be:Nat) (w:World),CallsD Aj 38 #[.pointer (some ⟨bt,0,none⟩),.pointer (some ⟨be,0,none⟩)] .returning w fun e u' w'=>e= .returned (.tuple #[])∧u'= .returning∧w'=w
theorem qf22 (w:World) (op:Int) (s:ByteArray) (t v:Int) (b:Bool) (A1:Option Addr) (n1 c1:Nat) (A2:Option Addr) (n2 c2:Nat) (hr:(∀ W,Below w.heap.size w W→Calls Aj 37 #[.agg #[Aa Ab op,Ac s,Aa Ab t,Aa Ab v,Ae b,Ad A1 n1 c1,Ad A2 n2 c2]] W (fun e w'=>e= .returned (Ae false)∧Below W.heap.size W w'))) :
  Calls Aj 20 #[.agg #[Aa Ab op,Ac s,Aa Ab t,Aa Ab v,Ae b,Ad A1 n1 c1,Ad A2 n2 c2]] w (fun e w'=>e= .returned (.tuple #[Aa Ab 0,Aa Ab 2])∧Below w.heap.size w w'):=by
 have hmf:∀ (fn:Fn) (first cap:Array Value) (w:World),(Be fn first cap).run Aj w= .ok (.func fn first cap) w:=fun _ _ _ _=>rfl;have HB0:=Aside0.mk ((((Ao w.heap.size w).alloc (Ag _) (Af #[Aa Ab op,Ac s,Aa Ab t,Aa Ab v,Ae b,Ad A1 n1 c1,Ad A2 n2 c2] 28)).alloc (by simp) (Af #[Aa Ab 0] 3)).alloc za6 (Af #[Aa Ab 0] 29));have hX:=qb (qb (qr w (Af #[Aa Ab op,Ac s,Aa Ab t,Aa Ab v,Ae b,Ad A1 n1 c1,Ad A2 n2 c2] 28)) (Af #[Aa Ab 0] 3)) (Af #[Aa Ab 0] 29);have hT:=qb (qr (w.alloc (Af #[Aa Ab op,Ac s,Aa Ab t,Aa Ab v,Ae b,Ad A1 n1 c1,Ad A2 n2 c2] 28)) (Af #[Aa Ab 0] 3)) (Af #[Aa Ab 0] 29);rw [qo]at hT;have hE:=qr ((w.alloc (Af #[Aa Ab op,Ac s,Aa Ab t,Aa Ab v,Ae b,Ad A1 n1 c1,Ad A2 n2 c2] 28)).alloc (Af #[Aa Ab 0] 3)) (Af #[Aa Ab 0] 29);rw [qo,qo]at hE;have HX0:=Aside0.mk hX;have HT0:=Aside0.mk hT;have HE0:=Aside0.mk hE;have HRr:=Aside0.mk hr;clear hX hT hE hr;go_enter_defers Tryz.func20,Tryz.ntmps20;go_wp2_with fail
 refine(HRr.out _ HB0.out).mono ?_;rintro e w1 ⟨rfl,b1⟩;have HB1:=Aside0.mk (HB0.out.trans (b1.mono HB0.out.size));have HT1:=Aside0.mk (qn HT0.out b1);have HE1:=Aside0.mk (qn HE0.out b1);have HX1:=Aside0.mk (qn HX0.out b1);clear b1;have tc0:=(Ai HT1.out 0).trans (show _=some (Aa Ab 0)from rfl);have tf0:=qe HT1.out 0;have ec0:=(Ai HE1.out 0).trans (show _=some (Aa Ab 0)from rfl);have ef0:=qe HE1.out 0;go_wp2_with fail
 refine⟨_,qn7 rfl _ _ (w.heap.size+1) (Aa Ab 0) (w.heap.size+1+1) (Aa Ab 2) rfl (qw11 _ _ _ ((qz _ _ _ _ _ (show w.heap.size+1≠w.heap.size+1+1 by omega)).trans (qk (cs':= #[Aa Ab 0]) HT1.out 0 (Aa Ab 0) rfl))) rfl (qd3 _ _ _ (qk (cs':= #[Aa Ab 2]) ((qz _ _ _ _ _ (show w.heap.size+1+1≠w.heap.size+1 by omega)).trans HE1.out) 0 (Aa Ab 2) rfl)),rfl,((Au (p:=⟨w.heap.size+1,0,none⟩) HB1.out (by simp) (Aa Ab 0)).setCell (p:=⟨w.heap.size+1+1,0,none⟩) za6 (Aa Ab 2))⟩
theorem qe22 (w:World) (op:Int) (s:ByteArray) (t v:Int) (b:Bool) (A1:Option Addr) (n1 c1:Nat) (A2:Option Addr) (n2 c2:Nat) (n:Int) (hC:qm21) (hr:(∀ W,Below w.heap.size w W→Calls Aj 37 #[.agg #[Aa Ab op,Ac s,Aa Ab t,Aa Ab v,Ae b,Ad A1 n1 c1,Ad A2 n2 c2]] W (fun e w'=>e= .returned (Ae true)∧Below W.heap.size W w'))) (ho:(∀ W,Below w.heap.size w W→Calls Aj 39 #[.agg #[Aa Ab 0],.agg #[Aa Ab op,Ac s,Aa Ab t,Aa Ab v,Ae b,Ad A1 n1 c1,Ad A2 n2 c2]] W (AnsC W (fun t v=>v= Aa Ab t) (.error n)))) :
  Calls Aj 20 #[.agg #[Aa Ab op,Ac s,Aa Ab t,Aa Ab v,Ae b,Ad A1 n1 c1,Ad A2 n2 c2]] w (fun e w'=>e= .returned (.tuple #[Aa Ab 0,Aa Ab n])∧Below w.heap.size w w'):=by
 have hmf:∀ (fn:Fn) (first cap:Array Value) (w:World),(Be fn first cap).run Aj w= .ok (.func fn first cap) w:=fun _ _ _ _=>rfl;have HB0:=Aside0.mk ((((Ao w.heap.size w).alloc (Ag _) (Af #[Aa Ab op,Ac s,Aa Ab t,Aa Ab v,Ae b,Ad A1 n1 c1,Ad A2 n2 c2] 28)).alloc (by simp) (Af #[Aa Ab 0] 3)).alloc za6 (Af #[Aa Ab 0] 29));have hX:=qb (qb (qr w (Af #[Aa Ab op,Ac s,Aa Ab t,Aa Ab v,Ae b,Ad A1 n1 c1,Ad A2 n2 c2] 28)) (Af #[Aa Ab 0] 3)) (Af #[Aa Ab 0] 29);have hT:=qb (qr (w.alloc (Af #[Aa Ab op,Ac s,Aa Ab t,Aa Ab v,Ae b,Ad A1 n1 c1,Ad A2 n2 c2] 28)) (Af #[Aa Ab 0] 3)) (Af #[Aa Ab 0] 29);rw [qo]at hT;have hE:=qr ((w.alloc (Af #[Aa Ab op,Ac s,Aa Ab t,Aa Ab v,Ae b,Ad A1 n1 c1,Ad A2 n2 c2] 28)).alloc (Af #[Aa Ab 0] 3)) (Af #[Aa Ab 0] 29);rw [qo,qo]at hE;have HX0:=Aside0.mk hX;have HT0:=Aside0.mk hT;have HE0:=Aside0.mk hE;have HRr:=Aside0.mk hr;clear hX hT hE hr;have HO:=Aside0.mk ho;clear ho;go_enter_defers Tryz.func20,Tryz.ntmps20;go_wp2_with fail
 refine(HRr.out _ HB0.out).mono ?_;rintro e w1 ⟨rfl,b1⟩;have HB1:=Aside0.mk (HB0.out.trans (b1.mono HB0.out.size));have HT1:=Aside0.mk (qn HT0.out b1);have HE1:=Aside0.mk (qn HE0.out b1);have HX1:=Aside0.mk (qn HX0.out b1);clear b1;have tc0:=(Ai HT1.out 0).trans (show _=some (Aa Ab 0)from rfl);have tf0:=qe HT1.out 0;have ec0:=(Ai HE1.out 0).trans (show _=some (Aa Ab 0)from rfl);have ef0:=qe HE1.out 0;obtain⟨x0,x1,x2,x3,x4,x5,x6⟩:=fc7 HX1.out;go_wp2_with fail
 refine(HO.out _ HB1.out).mono ?_;rintro e w2 ⟨b2,he⟩;have he:e=qw7 n:=he;subst he;have HB2:=Aside0.mk (HB1.out.trans (b2.mono HB1.out.size));have HT2:=Aside0.mk (qn HT1.out b2);have HE2:=Aside0.mk (qn HE1.out b2);clear b2;refine leaves_cons (f:=38) (args:= #[.pointer (some ⟨w.heap.size+1,0,none⟩),.pointer (some ⟨w.heap.size+1+1,0,none⟩)]) (by simp) (by simp [go_sem]) ?_;refine(hC _ _ _ _ _ n (show w.heap.size+1≠w.heap.size+1+1 by omega) HT2.out HE2.out).mono ?_;rintro e u' w9 ⟨rfl,rfl,rfl⟩;refine⟨_,qn7 rfl _ _ (w.heap.size+1) (Aa Ab 0) (w.heap.size+1+1) (Aa Ab n) rfl (qw11 _ _ _ (qj ((qz _ _ _ _ _ (show w.heap.size+1≠w.heap.size+1+1 by omega)).trans (qk (cs':= #[Aa Ab 0]) (qb HT2.out (Af #[Aa Ab n] 80)) 0 (Aa Ab 0) rfl)))) rfl (qd3 _ _ _ (qj (qk (cs':= #[Aa Ab n]) ((qz _ _ _ _ _ (show w.heap.size+1+1≠w.heap.size+1 by omega)).trans (qb HE2.out (Af #[Aa Ab n] 80))) 0 (Aa Ab n) rfl))),rfl,(AQ ((Au (p:=⟨w.heap.size+1,0,none⟩) (HB2.out.alloc HB2.out.size (Af #[Aa Ab n] 80)) (by simp) (Aa Ab 0)).setCell (p:=⟨w.heap.size+1+1,0,none⟩) za6 (Aa Ab n)))⟩
theorem type_ok (w:World) (op:Int) (s:ByteArray) (t v:Int) (b:Bool) (A1:Option Addr) (n1 c1:Nat) (A2:Option Addr) (n2 c2:Nat) (r:Int) (hN:ql21) (hr:(∀ W,Below w.heap.size w W→Calls Aj 37 #[.agg #[Aa Ab op,Ac s,Aa Ab t,Aa Ab v,Ae b,Ad A1 n1 c1,Ad A2 n2 c2]] W (fun e w'=>e= .returned (Ae true)∧Below W.heap.size W w'))) (ho:(∀ W,Below w.heap.size w W→Calls Aj 39 #[.agg #[Aa Ab 0],.agg #[Aa Ab op,Ac s,Aa Ab t,Aa Ab v,Ae b,Ad A1 n1 c1,Ad A2 n2 c2]] W (AnsC W (fun t v=>v= Aa Ab t) (.ok r)))) :
  Calls Aj 20 #[.agg #[Aa Ab op,Ac s,Aa Ab t,Aa Ab v,Ae b,Ad A1 n1 c1,Ad A2 n2 c2]] w (fun e w'=>e= .returned (.tuple #[Aa Ab r,Aa Ab 0])∧Below w.heap.size w w'):=by
 have hmf:∀ (fn:Fn) (first cap:Array Value) (w:World),(Be fn first cap).run Aj w= .ok (.func fn first cap) w:=fun _ _ _ _=>rfl;have HB0:=Aside0.mk ((((Ao w.heap.size w).alloc (Ag _) (Af #[Aa Ab op,Ac s,Aa Ab t,Aa Ab v,Ae b,Ad A1 n1 c1,Ad A2 n2 c2] 28)).alloc (by simp) (Af #[Aa Ab 0] 3)).alloc za6 (Af #[Aa Ab 0] 29));have hX:=qb (qb (qr w (Af #[Aa Ab op,Ac s,Aa Ab t,Aa Ab v,Ae b,Ad A1 n1 c1,Ad A2 n2 c2] 28)) (Af #[Aa Ab 0] 3)) (Af #[Aa Ab 0] 29);have hT:=qb (qr (w.alloc (Af #[Aa Ab op,Ac s,Aa Ab t,Aa Ab v,Ae b,Ad A1 n1 c1,Ad A2 n2 c2] 28)) (Af #[Aa Ab 0] 3)) (Af #[Aa Ab 0] 29);rw [qo]at hT;have hE:=qr ((w.alloc (Af #[Aa Ab op,Ac s,Aa Ab t,Aa Ab v,Ae b,Ad A1 n1 c1,Ad A2 n2 c2] 28)).alloc (Af #[Aa Ab 0] 3)) (Af #[Aa Ab 0] 29);rw [qo,qo]at hE;have HX0:=Aside0.mk hX;have HT0:=Aside0.mk hT;have HE0:=Aside0.mk hE;have HRr:=Aside0.mk hr;clear hX hT hE hr;have HO:=Aside0.mk ho;clear ho;go_enter_defers Tryz.func20,Tryz.ntmps20;go_wp2_with fail
 refine(HRr.out _ HB0.out).mono ?_;rintro e w1 ⟨rfl,b1⟩;have HB1:=Aside0.mk (HB0.out.trans (b1.mono HB0.out.size));have HT1:=Aside0.mk (qn HT0.out b1);have HE1:=Aside0.mk (qn HE0.out b1);have HX1:=Aside0.mk (qn HX0.out b1);clear b1;have tc0:=(Ai HT1.out 0).trans (show _=some (Aa Ab 0)from rfl);have tf0:=qe HT1.out 0;have ec0:=(Ai HE1.out 0).trans (show _=some (Aa Ab 0)from rfl);have ef0:=qe HE1.out 0;obtain⟨x0,x1,x2,x3,x4,x5,x6⟩:=fc7 HX1.out;go_wp2_with fail
 refine(HO.out _ HB1.out).mono ?_;rintro e w2 ⟨b2,v2,rfl,rfl⟩;have HB2:=Aside0.mk (HB1.out.trans (b2.mono HB1.out.size));have HT2:=Aside0.mk (qn HT1.out b2);have HE2:=Aside0.mk (qn HE1.out b2);clear b2 tc0 tf0 ec0 ef0 x0 x1 x2 x3 x4 x5 x6;have tc0:=(Ai HT2.out 0).trans (show _=some (Aa Ab 0)from rfl);have tf0:=qe HT2.out 0;have ec0:=(Ai HE2.out 0).trans (show _=some (Aa Ab 0)from rfl);have ef0:=qe HE2.out 0;go_wp2_with fail
 refine leaves_cons (f:=38) (args:= #[.pointer (some ⟨w.heap.size+1,0,none⟩),.pointer (some ⟨w.heap.size+1+1,0,none⟩)]) (by simp) (by simp [go_sem]) ?_;refine(hN _ _ _).mono ?_;rintro e u' w9 ⟨rfl,rfl,rfl⟩;refine⟨_,qn7 rfl _ _ (w.heap.size+1) (Aa Ab r) (w.heap.size+1+1) (Aa Ab 0) rfl (qw11 _ _ _ ((qz _ _ _ _ _ (show w.heap.size+1≠w.heap.size+1+1 by omega)).trans (qk (cs':= #[Aa Ab r]) HT2.out 0 (Aa Ab r) rfl))) rfl (qd3 _ _ _ (qk (cs':= #[Aa Ab 0]) ((qz _ _ _ _ _ (show w.heap.size+1+1≠w.heap.size+1 by omega)).trans HE2.out) 0 (Aa Ab 0) rfl)),rfl,((Au (p:=⟨w.heap.size+1,0,none⟩) HB2.out (by simp) (Aa Ab r)).setCell (p:=⟨w.heap.size+1+1,0,none⟩) za6 (Aa Ab 0))⟩
theorem qa17 (hC:qm21) (hN:ql21) (x:Ex) (w:World) (hT:qz5 w) (F:Nat→Prop) (op:Int) (s:ByteArray) (t v:Int) (b:Bool) (A1:Option Addr) (n1 c1:Nat) (A2:Option Addr) (n2 c2:Nat) (hR:RepE F w x [Aa Ab op,Ac s,Aa Ab t,Aa Ab v,Ae b,Ad A1 n1 c1,Ad A2 n2 c2]) (hw:wfE x) :
  Calls Aj 20 #[.agg #[Aa Ab op,Ac s,Aa Ab t,Aa Ab v,Ae b,Ad A1 n1 c1,Ad A2 n2 c2]] w (fun e w'=>e= .returned (.tuple #[Aa Ab (qk11 x).1,Aa Ab (qk11 x).2])∧Below w.heap.size w w'):=by
 have hr:=fun W (hb:Below w.heap.size w W)=>rtC_all x W F op s t v b A1 n1 c1 A2 n2 c2 (qj1 hT hb) (hR.keeps (Keeps.of_below hb)) hw;unfold qk11
 cases hq:qt3 x with
 | false=>
  rw [hq]at hr;exact qf22 w op s t v b A1 n1 c1 A2 n2 c2 hr
 | true=>
  rw [hq]at hr;rw [if_pos rfl];have ho:=fun W (hb:Below w.heap.size w W)=>ofC_all x 0 W F op s t v b A1 n1 c1 A2 n2 c2 (by omega) (hR.keeps (Keeps.of_below hb)) hq hw
  cases ht:qw1 x 0 with
  | error n=>rw [ht]at ho;exact qe22 w op s t v b A1 n1 c1 A2 n2 c2 n hC hr ho
  | ok r=>rw [ht]at ho;exact type_ok w op s t v b A1 n1 c1 A2 n2 c2 r hN hr ho
end Go.Proofs.YtocdckniokhbbaaGreatDoor.Syn
namespace Go.Proofs.YtocdckniokhbbaaGreatDoor.Syn
open LexA
def okW (w:Wd):Prop:=qy11 w.2.2.1∧qy11 w.2.2.2∧w.2.1.length≤1000
def okR (r:List Wd):Prop:=r.length≤1000∧ ∀ w ∈ r,okW w
theorem okR.tail {w:Wd} {r:List Wd} (h:okR (w :: r)):okR r∧r.length<(w :: r).length:=⟨⟨by have:=h.1;simp at this;omega,fun v hv=>h.2 v (List.mem_cons_of_mem _ hv)⟩,by simp⟩
theorem okR.head {w:Wd} {r:List Wd} (h:okR (w :: r)):okW w:=h.2 w (List.mem_cons_self ..)
theorem okR.take {k:Int} {s:List UInt8} {r r1:List Wd} (h:okR r) (ht:takeW k s r=some r1):okR r1∧r1.length<r.length:=by
 obtain⟨x,rfl,_⟩:=qg1 ht;exact h.tail
theorem qb5 (n:Int) (h1: -9223372036854775808≤n) (h2:n≤9223372036854775807):qy11 n:=by
 unfold qy11 Lit.wf;simp [IntKind.min,IntKind.max,IntKind.signed,IntKind.bits];omega
theorem qu4 {n:Nat} (h:n≤3000):n≤maxLen:=by unfold maxLen;omega
theorem qt21 {op:Int} (ho:qy11 op) {l:List Ex} (hl:l.length≤3000) (h:wfL l):wfE (mkW op l):=by
 unfold mkW;simp only [wfE,wfS];exact⟨ho,qb5 0 (by omega) (by omega),qb5 0 (by omega) (by omega),Ba _,qu4 hl,Ba _,h,trivial⟩
theorem qu8 (b:Bool) {l:List Ex} {ss:List St} (hl:l.length≤3000) (hs:ss.length≤3000) (h:wfL l) (h2:wfS ss):wfE (.mk 16 [] 0 0 b l ss):=by
 simp only [wfE];exact⟨qb5 16 (by omega) (by omega),qb5 0 (by omega) (by omega),qb5 0 (by omega) (by omega),Ba _,qu4 hl,qu4 hs,h,h2⟩
theorem qt13:∀ {l m:List Ex},wfL l→wfL m→wfL (l ++ m)
 | [],m,_,h=>h
 | e :: l,m,h,k=>⟨h.1,qt13 h.2 k⟩
theorem qs13:∀ {l m:List St},wfS l→wfS m→wfS (l ++ m)
 | [],m,_,h=>h
 | e :: l,m,h,k=>⟨h.1,qs13 h.2 k⟩
theorem wf_any:wfX anyT:=by
 unfold anyT;simp only [wfX,wfL];exact⟨qb5 11 (by omega) (by omega),qb5 3 (by omega) (by omega),Ba _,Ba _,trivial⟩
theorem qr22 (k:Nat):∀ q ∈ qd2 k,1≤q.2∧q.2≤13:=by
 match k with
 | 0 | 1 | 2 | 3 | 4 | 5=>decide
 | n+6=>intro q hq;cases hq
theorem op_wf {k:Nat} {r:List Wd} {o:Int × List Wd} (hr:okR r) (h:opOf k r=some o):qy11 o.1∧okR o.2∧o.2.length<r.length:=by
 cases r with
 | nil=>cases h
 | cons w r=>
  simp only [opOf]at h
  split at h
  ·cases hq:(qd2 k).find? (fun o=>o.1 == w.2.1)with
   | none=>rw [hq]at h;cases h
   | some q=>
    rw [hq]at h
    cases h
    have:=qr22 k q (List.mem_of_find?_eq_some hq);dsimp only;exact⟨qb5 _ (by omega) (by omega),hr.tail⟩
  ·cases h
theorem axis_wf (s:List UInt8):qy11 (qp1 s):=by
 unfold qp1
 split
 ·rename_i h
  have h1:axesL.idxOf s<axesL.length:=List.idxOf_lt_length_of_mem (by simpa using h);have h2:axesL.length=12:=rfl;exact qb5 _ (by omega) (by omega)
 ·exact qb5 0 (by omega) (by omega)
theorem head_wf {r:List Wd} {h:Int × List Wd} (hr:okR r) (he:qj8 r=some h):qy11 h.1∧okR h.2∧h.2.length≤r.length:=by
 unfold qj8 at he
 cases ht:takeW 1 [64] r with
 | some r1=>
  rw [ht]at he
  cases he
  have:=hr.take ht;exact⟨qb5 9 (by omega) (by omega),this.1,Ah this.2⟩
 | none=>
  rw [ht]at he
  cases r with
  | nil=>cases he;exact⟨qb5 1 (by omega) (by omega),hr,Ag _⟩
  | cons w r=>
   simp only []at he
   split at he
   ·split at he
    ·cases he
    ·cases ht2:takeW 1 [58,58] r with
     | none=>rw [ht2]at he;cases he
     | some r2=>
      rw [ht2]at he
      cases he
      have h1:=hr.tail;have h2:=h1.1.take ht2;exact⟨axis_wf _,h2.1,by have:=h1.2;have:=h2.2;dsimp only;omega⟩
   ·cases he
    exact⟨qb5 1 (by omega) (by omega),hr,Ag _⟩
theorem test_wf {r:List Wd} {t:(Int × List UInt8 × Bool) × List Wd} (hr:okR r) (he:qi3 r=some t):qy11 t.1.1∧t.1.2.1.length≤1000∧okR t.2∧t.2.length≤r.length:=by
 cases r with
 | nil=>cases he
 | cons w r=>
  have h1:=hr.tail;have hw:=hr.head;simp only [qi3]at he
  split at he
  ·cases he;exact⟨qb5 1 (by omega) (by omega),hw.2.2,h1.1,Ah h1.2⟩
  split at he
  ·cases he;exact⟨qb5 2 (by omega) (by omega),Ba _,h1.1,Ah h1.2⟩
  split at he
  ·obtain⟨r1,h2,h3⟩:=qx he;have g1:=h1.1.take h2
   have fin:∀ {k:Int} {b:Bool} {o:Option (List Wd)},qy11 k→o=takeW 1 [41] r1→o.map (fun r2=>(((k,([]:List UInt8),b),r2):(Int × List UInt8 × Bool) × List Wd))=some t→qy11 t.1.1∧t.1.2.1.length≤1000∧okR t.2∧t.2.length≤(w :: r).length:=by
    intro k b o hk ho hq
    cases o with
    | none=>cases hq
    | some r2=>
     cases hq
     have g2:=g1.1.take ho.symm;exact⟨hk,Ba _,g2.1,by have:=h1.2;have:=g1.2;have:=g2.2;dsimp only;omega⟩
   split at h3
   ·exact fin (qb5 5 (by omega) (by omega)) rfl h3
   split at h3
   ·exact fin (qb5 4 (by omega) (by omega)) rfl h3
   split at h3
   ·cases r1 with
    | nil=>cases h3
    | cons v r2=>
     simp only []at h3
     split at h3
     ·cases ht:takeW 1 [41] r2 with
      | none=>rw [ht]at h3;cases h3
      | some r3=>
       rw [ht]at h3
       cases h3
       have g2:=g1.1.tail;have g3:=g2.1.take ht;exact⟨qb5 6 (by omega) (by omega),g1.1.head.2.2,g3.1,by have:=h1.2;have:=g1.2;have:=g2.2;have:=g3.2;dsimp only;omega⟩
     ·exact fin (qb5 6 (by omega) (by omega)) rfl h3
   ·exact fin (qb5 3 (by omega) (by omega)) rfl h3
  ·cases he
structure WF (n:Nat):Prop where
 bin:∀ {k r x r'},okR r→qk3 n k r=some (x,r')→wfE x∧okR r'∧r'.length≤r.length
 loop:∀ {k e r x r'},okR r→wfE e→qx6 n k e r=some (x,r')→wfE x∧okR r'∧r'.length≤r.length
 signed:∀ {r x r'},okR r→qr4 n r=some (x,r')→wfE x∧okR r'∧r'.length≤r.length
 union:∀ {r x r'},okR r→qf6 n r=some (x,r')→wfE x∧okR r'∧r'.length≤r.length
 uloop:∀ {e r x r'},okR r→wfE e→qk5 n e r=some (x,r')→wfE x∧okR r'∧r'.length≤r.length
 path:∀ {r x r'},okR r→qb6 n r=some (x,r')→wfE x∧okR r'∧r'.length≤r.length
 more:∀ {acc r x r'},okR r→wfS acc→acc.length+2*r.length≤2100→qn2 n acc r=some (x,r')→wfS x∧x.length≤2100∧okR r'∧r'.length≤r.length
 loc:∀ {r x r'},okR r→qo21 n r=some (x,r')→wfE x∧okR r'∧r'.length≤r.length
 filter:∀ {r x r'},okR r→qj4 n r=some (x,r')→wfE x∧okR r'∧r'.length≤r.length
 preds:∀ {acc r x r'},okR r→wfL acc→acc.length+2*r.length≤2100→qv1 n acc r=some (x,r')→wfL x∧x.length≤2100∧okR r'∧r'.length≤r.length
 prim:∀ {r x r'},okR r→qh8 n r=some (x,r')→wfE x∧okR r'∧r'.length≤r.length
 call:∀ {s r x r'},okR r→s.length≤1000→qf10 n s r=some (x,r')→wfE x∧okR r'∧r'.length≤r.length
 args:∀ {acc r x r'},okR r→wfL acc→acc.length+2*r.length≤2100→qy6 n acc r=some (x,r')→wfL x∧x.length≤2100∧okR r'∧r'.length≤r.length
 step:∀ {r x r'},okR r→qv2 n r=some (x,r')→wfX x∧okR r'∧r'.length≤r.length
theorem all_wf:∀ n,WF n
 | 0=>⟨fun _ h=>(by cases h),fun _ _ h=>(by cases h),fun _ h=>(by cases h),fun _ h=>(by cases h),fun _ _ h=>(by cases h),fun _ h=>(by cases h),fun _ _ _ h=>(by cases h),fun _ h=>(by cases h),fun _ h=>(by cases h),fun _ _ _ h=>(by cases h),fun _ h=>(by cases h),fun _ _ h=>(by cases h),fun _ _ _ h=>(by cases h),fun _ h=>(by cases h)⟩
 | n+1=>by
  have I:=all_wf n;refine⟨?_,?_,?_,?_,?_,?_,?_,?_,?_,?_,?_,?_,?_,?_⟩
  ·intro k r x r' hr h;simp only [qk3]at h
   split at h
   ·exact I.signed hr h
   ·obtain⟨y,h1,h2⟩:=qx h;have g1:=I.bin hr (show _=some (y.1,y.2)from h1);have g2:=I.loop g1.2.1 g1.1 h2;exact⟨g2.1,g2.2.1,by omega⟩
  ·intro k e r x r' hr he h;simp only [qx6]at h
   cases ho:opOf k r with
   | none=>rw [ho]at h;cases h;exact⟨he,hr,Ag _⟩
   | some o=>
    rw [ho]at h;obtain⟨y,h1,h2⟩:=qx h;have g0:=op_wf hr ho;have g1:=I.bin g0.2.1 (show _=some (y.1,y.2)from h1);have g2:=I.loop g1.2.1 (qt21 g0.1 (by simp) (show wfL [e,y.1]from⟨he,g1.1,trivial⟩)) h2;exact⟨g2.1,g2.2.1,by omega⟩
  ·intro r x r' hr h;simp only [qr4]at h
   cases ht:takeW 5 [45] r with
   | none=>rw [ht]at h;exact I.union hr h
   | some r1=>
    rw [ht]at h;have g0:=hr.take ht;obtain⟨y,h1,h2⟩:=qx h;have g1:=I.signed g0.1 (show _=some (y.1,y.2)from h1)
    cases h2
    exact⟨qt21 (qb5 15 (by omega) (by omega)) (by simp) (show wfL [y.1]from⟨g1.1,trivial⟩),g1.2.1,by omega⟩
  ·intro r x r' hr h;simp only [qf6]at h;obtain⟨y,h1,h2⟩:=qx h;have g1:=I.path hr (show _=some (y.1,y.2)from h1);have g2:=I.uloop g1.2.1 g1.1 h2;exact⟨g2.1,g2.2.1,by omega⟩
  ·intro e r x r' hr he h;simp only [qk5]at h
   cases ht:takeW 5 [124] r with
   | none=>rw [ht]at h;cases h;exact⟨he,hr,Ag _⟩
   | some r1=>
    rw [ht]at h;have g0:=hr.take ht;obtain⟨y,h1,h2⟩:=qx h;have g1:=I.path g0.1 (show _=some (y.1,y.2)from h1);have g2:=I.uloop g1.2.1 (qt21 (qb5 14 (by omega) (by omega)) (by simp) (show wfL [e,y.1]from⟨he,g1.1,trivial⟩)) h2;exact⟨g2.1,g2.2.1,by omega⟩
  ·intro r x r' hr h;simp only [qb6]at h
   split at h
   ·obtain⟨y,h1,h2⟩:=qx h;have g1:=I.filter hr (show _=some (y.1,y.2)from h1)
    split at h2
    ·cases h2;exact g1
    ·obtain⟨z,h3,h4⟩:=qx h2;have g2:=I.more g1.2.1 (by trivial) (by have:=g1.2.1.1;simp only [A8];omega) (show _=some (z.1,z.2)from h3)
     cases h4
     exact⟨qu8 _ (by simp) (by omega) (show wfL [y.1]from⟨g1.1,trivial⟩) g2.1,g2.2.2.1,by omega⟩
   ·exact I.loc hr h
  ·intro acc r x r' hr ha hl h;simp only [qn2]at h
   cases ht:takeW 5 [47] r with
   | some r1=>
    rw [ht]at h;have g0:=hr.take ht;obtain⟨y,h1,h2⟩:=qx h;have g1:=I.step g0.1 (show _=some (y.1,y.2)from h1);have g2:=I.more g1.2.1 (qs13 ha (show wfS [y.1]from⟨g1.1,trivial⟩)) (by rw [Ar,Bj];omega) h2;exact⟨g2.1,g2.2.1,g2.2.2.1,by omega⟩
   | none=>
    rw [ht]at h;simp only []at h
    cases ht2:takeW 5 [47,47] r with
    | some r1=>
     rw [ht2]at h;have g0:=hr.take ht2;obtain⟨y,h1,h2⟩:=qx h;have g1:=I.step g0.1 (show _=some (y.1,y.2)from h1);have g2:=I.more g1.2.1 (qs13 ha (show wfS [anyT,y.1]from⟨wf_any,g1.1,trivial⟩)) (by rw [Ar];simp only [AK,A8];omega) h2;exact⟨g2.1,g2.2.1,g2.2.2.1,by omega⟩
    | none=>rw [ht2]at h;cases h;exact⟨ha,by omega,hr,Ag _⟩
  ·intro r x r' hr h;simp only [qo21]at h
   split at h
   ·obtain⟨z,h3,h4⟩:=qx h;have g2:=I.more hr (by trivial) (by have:=hr.1;simp only [A8];omega) (show _=some (z.1,z.2)from h3)
    cases h4
    exact⟨qu8 _ (by simp) (by omega) trivial g2.1,g2.2.2.1,by omega⟩
   ·cases ht:takeW 5 [47] r with
    | some r1=>
     rw [ht]at h;simp only []at h;have g0:=hr.take ht
     split at h
     ·cases h;exact⟨qu8 _ (by simp) (by simp) trivial trivial,g0.1,by omega⟩
     ·obtain⟨y,h1,h2⟩:=qx h;obtain⟨z,h3,h4⟩:=qx h2;have g1:=I.step g0.1 (show _=some (y.1,y.2)from h1);have g2:=I.more g1.2.1 (show wfS [y.1]from⟨g1.1,trivial⟩) (by have:=g1.2.1.1;simp only [AK,A8];omega) (show _=some (z.1,z.2)from h3)
      cases h4
      exact⟨qu8 _ (by simp) (by omega) trivial g2.1,g2.2.2.1,by omega⟩
    | none=>
     rw [ht]at h;simp only []at h;obtain⟨y,h1,h2⟩:=qx h;obtain⟨z,h3,h4⟩:=qx h2;have g1:=I.step hr (show _=some (y.1,y.2)from h1);have g2:=I.more g1.2.1 (show wfS [y.1]from⟨g1.1,trivial⟩) (by have:=g1.2.1.1;simp only [AK,A8];omega) (show _=some (z.1,z.2)from h3)
     cases h4
     exact⟨qu8 _ (by simp) (by omega) trivial g2.1,g2.2.2.1,by omega⟩
  ·intro r x r' hr h;simp only [qj4]at h;obtain⟨y,h1,h2⟩:=qx h;obtain⟨z,h3,h4⟩:=qx h2;have g1:=I.prim hr (show _=some (y.1,y.2)from h1);have g2:=I.preds g1.2.1 (by trivial) (by have:=g1.2.1.1;simp only [A8];omega) (show _=some (z.1,z.2)from h3)
   cases h4
   refine⟨?_,g2.2.2.1,by omega⟩
   split
   ·exact g1.1
   ·exact qt21 (qb5 17 (by omega) (by omega)) (by rw [AK];omega) ⟨g1.1,g2.1⟩
  ·intro acc r x r' hr ha hl h;simp only [qv1]at h
   cases ht:takeW 1 [91] r with
   | none=>rw [ht]at h;cases h;exact⟨ha,by omega,hr,Ag _⟩
   | some r1=>
    rw [ht]at h;simp only []at h;have g0:=hr.take ht;obtain⟨y,h1,h2⟩:=qx h;obtain⟨r3,h3,h4⟩:=qx h2;have g1:=I.bin g0.1 (show _=some (y.1,y.2)from h1);have g3:=g1.2.1.take h3;have g2:=I.preds g3.1 (qt13 ha (show wfL [y.1]from⟨g1.1,trivial⟩)) (by rw [Ar,Bj];omega) h4;exact⟨g2.1,g2.2.1,g2.2.2.1,by omega⟩
  ·intro r x r' hr h
   cases r with
   | nil=>cases h
   | cons w r=>
    simp only [qh8]at h;have h0:=hr.tail;have hw:=hr.head;have z0:=qb5 0 (by omega) (by omega)
    split at h
    ·cases h;exact⟨by simp only [wfE];exact⟨qb5 21 (by omega) (by omega),z0,z0,qu4 (by have:=hw.2.2;omega),Ba _,Ba _,trivial,trivial⟩,h0.1,by omega⟩
    split at h
    ·cases h;exact⟨by simp only [wfE];exact⟨qb5 18 (by omega) (by omega),z0,z0,qu4 (by have:=hw.2.2;omega),Ba _,Ba _,trivial,trivial⟩,h0.1,by omega⟩
    split at h
    ·cases h;exact⟨by simp only [wfE];exact⟨qb5 19 (by omega) (by omega),hw.1,hw.2.1,Ba _,Ba _,Ba _,trivial,trivial⟩,h0.1,by omega⟩
    split at h
    ·have g:=I.call h0.1 hw.2.2 h;exact⟨g.1,g.2.1,by omega⟩
    ·obtain⟨y,h1,h2⟩:=qx h;obtain⟨r3,h3,h4⟩:=qx h2;have g1:=I.bin h0.1 (show _=some (y.1,y.2)from h1);have g3:=g1.2.1.take h3
     cases h4
     exact⟨g1.1,g3.1,by omega⟩
  ·intro s r x r' hr hs h;simp only [qf10]at h;obtain⟨r1,h1,h2⟩:=qx h;have g0:=hr.take h1;have z0:=qb5 0 (by omega) (by omega)
   have fin:∀ {l:List Ex},l.length≤3000→wfL l→wfE (.mk 20 s 0 0 false l []):=fun hl hw=>by
    simp only [wfE];exact⟨qb5 20 (by omega) (by omega),z0,z0,qu4 (by omega),qu4 hl,Ba _,hw,trivial⟩
   cases ht:takeW 1 [41] r1 with
   | some r2=>
    rw [ht]at h2
    cases h2
    have g2:=g0.1.take ht;exact⟨fin (by simp) trivial,g2.1,by omega⟩
   | none=>
    rw [ht]at h2;simp only []at h2;obtain⟨y,h3,h4⟩:=qx h2;obtain⟨z,h5,h6⟩:=qx h4;obtain⟨r4,h7,h8⟩:=qx h6;have g1:=I.bin g0.1 (show _=some (y.1,y.2)from h3);have g2:=I.args g1.2.1 (show wfL [y.1]from⟨g1.1,trivial⟩) (by have:=g1.2.1.1;simp only [AK,A8];omega) (show _=some (z.1,z.2)from h5);have g3:=g2.2.2.1.take h7
    cases h8
    exact⟨fin (by omega) g2.1,g3.1,by omega⟩
  ·intro acc r x r' hr ha hl h;simp only [qy6]at h
   cases ht:takeW 1 [44] r with
   | none=>rw [ht]at h;cases h;exact⟨ha,by omega,hr,Ag _⟩
   | some r1=>
    rw [ht]at h;simp only []at h;have g0:=hr.take ht;obtain⟨y,h1,h2⟩:=qx h;have g1:=I.bin g0.1 (show _=some (y.1,y.2)from h1);have g2:=I.args g1.2.1 (qt13 ha (show wfL [y.1]from⟨g1.1,trivial⟩)) (by rw [Ar,Bj];omega) h2;exact⟨g2.1,g2.2.1,g2.2.2.1,by omega⟩
  ·intro r x r' hr h;simp only [qv2]at h
   have st:∀ {a:Int},qy11 a→wfX (.mk a 3 [] false []):=fun ha=>by
    simp only [wfX];exact⟨ha,qb5 3 (by omega) (by omega),Ba _,Ba _,trivial⟩
   cases ht:takeW 1 [46] r with
   | some r1=>rw [ht]at h;cases h;have g:=hr.take ht;exact⟨st (qb5 10 (by omega) (by omega)),g.1,by omega⟩
   | none=>
    rw [ht]at h;simp only []at h
    cases ht2:takeW 1 [46,46] r with
    | some r1=>rw [ht2]at h;cases h;have g:=hr.take ht2;exact⟨st (qb5 3 (by omega) (by omega)),g.1,by omega⟩
    | none=>
     rw [ht2]at h;simp only []at h;obtain⟨a,h1,h2⟩:=qx h;obtain⟨t,h3,h4⟩:=qx h2;obtain⟨y,h5,h6⟩:=qx h4;have g1:=head_wf hr h1;have g2:=test_wf g1.2.1 h3;have g3:=I.preds g2.2.2.1 (by trivial) (by have:=g2.2.2.1.1;simp only [A8];omega) (show _=some (y.1,y.2)from h5)
     cases h6
     refine⟨?_,g3.2.2.1,by omega⟩;simp only [wfX];exact⟨g1.1,g2.1,qu4 (by omega),qu4 (by omega),g3.1⟩
theorem qz22 {l:List Wd} (hl:okR l) {e:Ex} (h:qj5 l=some e):wfE e:=by
 unfold qj5 at h
 cases hp:qk3 (80*l.length+60) 0 l with
 | none=>rw [hp]at h;cases h
 | some x=>
  obtain⟨x,r⟩:=x;rw [hp]at h
  cases r with
  | cons _ _=>cases h
  | nil=>cases h;exact((all_wf _).bin hl hp).1
theorem qs20:wfE ex0:=by
 unfold ex0;simp only [wfE];exact⟨qb5 0 (by omega) (by omega),qb5 0 (by omega) (by omega),qb5 0 (by omega) (by omega),Ba _,Ba _,Ba _,trivial,trivial⟩
end Go.Proofs.YtocdckniokhbbaaGreatDoor.Syn
