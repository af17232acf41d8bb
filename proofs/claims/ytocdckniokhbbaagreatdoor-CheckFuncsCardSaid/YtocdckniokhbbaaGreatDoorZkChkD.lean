import Derived.Test.YtocdckniokhbbaaGreatDoorZkZz
import Derived.Test.YtocdckniokhbbaaGreatDoorZkSynS
import Derived.Test.YtocdckniokhbbaaGreatDoorZkFigD
import Derived.Test.YtocdckniokhbbaaGreatDoorZkSynV
import Derived.Deep.DeepCutAuto
set_option linter.unusedVariables false
set_option linter.unusedSimpArgs false
open Go.Value renaming int→Aa,bool→Ae,string→Ac,slice→Ad
open Go.IntKind renaming i64→Ab
open Go.Proofs.Tryz renaming prog→Aj,ntmps70→Ch,func70→Ck
open Go.Obj renaming cells→Af
open Nat renaming le_refl→Ag
open Go.RowKit.Below renaming refl→Ao,drew→AQ
open Except renaming bind→Bl,ok→BN
open Bool renaming and_eq_true→AF
open List renaming getElem?_eq_getElem→AG
open Go.Lib renaming cell_of_heap→Ai
open Option renaming some→Ay
set_option maxHeartbeats 8000000
set_option maxRecDepth 100000
namespace Go.Proofs.YtocdckniokhbbaaGreatDoor.Syn
open Go.RowKit Go.Shelf YtocdckniokhbbaaGreatDoorW.PrintWords YtocdckniokhbbaaGreatDoorW.PrintLast YtocdckniokhbbaaGreatDoorW.PrintMore CharB SpanA FigD LexA LexF
def qw7 (n:Int):Ending:= .panicked [{v:= .iface 80 (.agg #[Aa Ab n]),recovered:=false}]
theorem qu3 (n:Int) (w:World):Calls Aj 75 #[Ae true,Aa Ab n] w fun e w'=>e= .returned (.tuple #[])∧w'=w:=by
 go_enter Tryz.func75,Tryz.ntmps75;go_wp2_with fail
 first | go_end0 | refine bodyPost_ret (results_none rfl _ _ _) rfl ?_
 exact⟨rfl,rfl⟩
theorem qv3 (n:Int) (w:World):Calls Aj 75 #[Ae false,Aa Ab n] w fun e w'=>e=qw7 n∧w'=w:=by
 go_enter Tryz.func75,Tryz.ntmps75;go_wp2_with fail
 exact⟨rfl,rfl,rfl⟩
def AnsC {α:Type} (w:World) (R:α→Value→Prop) (o:Except Int α) (e:Ending) (w':World):Prop:=Below w.heap.size w w'∧match o with
 | .error n=>e=qw7 n
 | .ok x=>∃ v,e= .returned v∧R x v
def OfC (x:Ex):Prop:=∀ (k:Nat) (w:World) (F:Nat→Prop) (op:Int) (s:ByteArray) (t v:Int) (b:Bool) (A1:Option Addr) (n1 c1:Nat) (A2:Option Addr) (n2 c2:Nat),k≤2→RepE F w x [Aa Ab op,Ac s,Aa Ab t,Aa Ab v,Ae b,Ad A1 n1 c1,Ad A2 n2 c2]→qt3 x=true→wfE x →
 Calls Aj 39 #[.agg #[Aa Ab (k:Int)],.agg #[Aa Ab op,Ac s,Aa Ab t,Aa Ab v,Ae b,Ad A1 n1 c1,Ad A2 n2 c2]] w (AnsC w (fun t v=>v= Aa Ab t) (qw1 x k))
def qj9 (x:Ex) (k:Nat):Except Int Unit:=(qw1 x k).bind fun t=>if t=1 then .ok ()else .error 35
theorem qy10 {x:Ex} (hx:OfC x) (k:Nat) (w:World) (F:Nat→Prop) (op:Int) (s:ByteArray) (t v:Int) (b:Bool) (A1:Option Addr) (n1 c1:Nat) (A2:Option Addr) (n2 c2:Nat) (hk:k≤2) (hR:RepE F w x [Aa Ab op,Ac s,Aa Ab t,Aa Ab v,Ae b,Ad A1 n1 c1,Ad A2 n2 c2]) (hr:qt3 x=true) (hw:wfE x) :
  Calls Aj 73 #[.agg #[Aa Ab (k:Int)],.agg #[Aa Ab op,Ac s,Aa Ab t,Aa Ab v,Ae b,Ad A1 n1 c1,Ad A2 n2 c2]] w (AnsC w (fun _ v=>v= .tuple #[]) (qj9 x k)):=by
 have B1:=(Ao w.heap.size w).alloc (Ag _) (Af #[Aa Ab (k:Int)] 83);have B2:=B1.alloc B1.size (Af #[Aa Ab op,Ac s,Aa Ab t,Aa Ab v,Ae b,Ad A1 n1 c1,Ad A2 n2 c2] 28);have hc:=hx k _ F op s t v b A1 n1 c1 A2 n2 c2 hk (hR.keeps (Keeps.of_below B2)) hr hw;have HB:=Aside0.mk B2;clear B1 B2 hR hr hw hk hx;unfold qj9;generalize qw1 x k=q at *
 cases q with
 | error n=>
  go_enter Tryz.func73,Tryz.ntmps73;go_wp2_with fail
  refine hc.mono ?_;rintro e w1 ⟨b1,he⟩;have he:e=qw7 n:=he;subst he;exact⟨rfl,HB.out.trans (b1.mono HB.out.size),rfl⟩
 | ok ty=>
  simp only [Bl];by_cases h1:ty=1
  ·subst h1;rw [if_pos rfl];go_enter Tryz.func73,Tryz.ntmps73;go_wp2_with fail
   refine hc.mono ?_;rintro e w1 ⟨b1,v1,rfl,rfl⟩;have HB1:=Aside0.mk (HB.out.trans (b1.mono HB.out.size));clear b1 hc;go_wp2_with fail
   refine(qu3 _ _).mono ?_;rintro e w2 ⟨rfl,rfl⟩;go_wp2_with fail
   first | go_end0 | refine bodyPost_ret (results_none rfl _ _ _) rfl ?_
   exact⟨HB1.out,_,rfl,rfl⟩
  ·rw [if_neg h1];have h2:(ty == 1)=false:=by simpa using h1
   clear h1;go_enter Tryz.func73,Tryz.ntmps73;go_wp2_with fail
   refine hc.mono ?_;rintro e w1 ⟨b1,v1,rfl,rfl⟩;have HB1:=Aside0.mk (HB.out.trans (b1.mono HB.out.size));clear b1 hc;go_wp2_with fail
   refine(qv3 _ _).mono ?_;rintro e w2 ⟨rfl,rfl⟩;exact⟨rfl,HB1.out,rfl⟩
theorem qo5:∀ {l:List Ex} {x:Ex},qx9 l=true→x ∈ l→qt3 x=true
 | y :: l,x,h,hm=>by
  simp only [qx9,AF]at h
  rcases List.mem_cons.1 hm with rfl | hm
  ·exact h.1
  ·exact qo5 h.2 hm
theorem qn6:∀ {l:List Ex} {x:Ex},wfL l→x ∈ l→wfE x
 | y :: l,x,h,hm=>by
  rcases List.mem_cons.1 hm with rfl | hm
  ·exact h.1
  ·exact qn6 h.2 hm
theorem qg9 (l:List Ex) (hl:∀ x ∈ l,OfC x) (k:Nat) (w:World) (F:Nat→Prop) (A:Option Addr) (cap:Nat) (xs:List Value) (hk:k≤2) (hR:RepR F w l xs) (hW:Row F w A xs) (hr:qx9 l=true) (hw:wfL l) (hlen:l.length≤maxLen) :
  Calls Aj 74 #[.agg #[Aa Ab (k:Int)],Ad A l.length cap] w (AnsC w (fun _ v=>v= .tuple #[]) (qz3 l k)):=by
 have hwr:=fun W (h:Below w.heap.size w W)=>(Nat.le_trans (Ag _) h.size);clear hwr;have HL:=Aside0.mk hl;have HR:=Aside0.mk hR;have HW:=Aside0.mk hW;have HAll:=Aside0.mk hr;have HWf:=Aside0.mk hw;have hlen':(l.length:Int)≤140737488351232∨True:= .inr trivial;clear hlen';have HLen:=Aside0.mk (show l.length≤9223372036854775807 by unfold maxLen at hlen;omega);have HB0:=Aside0.mk ((Ao w.heap.size w).alloc (Ag _) (Af #[Aa Ab (k:Int)] 83));have HK0:=Aside0.mk (qr w (Af #[Aa Ab (k:Int)] 83));have HKk:=Aside0.mk hk;obtain⟨R,hR0⟩:∃ R,qz3 l k=R:=⟨_,rfl⟩;rw [hR0];have HQ0:Aside0 (qz3 (l.drop 0) k=R):=⟨za4⟩;clear hl hR hW hr hw hR0 hlen hk;go_enter Tryz.func74,Tryz.ntmps74;go_wp2_with fail
 go_loopg [8] l.length (fun kq v8 w'=>∃ i:Nat,v8= Aa Ab (i:Int)∧Aside0 (kq+i=l.length)∧Aside0 (Below w.heap.size w w')∧Aside0 (w'.heap[w.heap.size]?=some (Af #[Aa Ab (k:Int)] 83 (0,0)))∧Aside0 (qz3 (l.drop i) k=R))
 case atStart=>exact⟨0,rfl,⟨rfl⟩,HB0,HK0,HQ0⟩
 case round=>
  obtain⟨i,rfl,HI,HBr,HKr,HQ⟩:=hrel;clear HB0 HK0 HQ0;by_cases hi:i<l.length
  ·obtain⟨x,hix⟩:∃ x,l[i]?=some x:=⟨_,AG hi⟩;obtain⟨a,op,s,t,v,b,A1,n1,c1,A2,n2,c2,rfl,hFa,hba,hRx,x0,x1,x2,x3,x4,x5,x6⟩:=Row.exp (HR.out.keeps (Keeps.of_below HBr.out)) (HW.out.keeps (Keeps.of_below HBr.out)) i x hix;have hlt:decide ((i:Int)<(l.length:Int))=true:=by simp;omega
   have h0i:(0:Int)≤(i:Int):=by omega
   have hil:(i:Int)<(l.length:Int):=by omega
   have kc0:=(Ai (qb HKr.out (Af #[Aa Ab op,Ac s,Aa Ab t,Aa Ab v,Ae b,Ad A1 n1 c1,Ad A2 n2 c2] 28)) 0).trans (show _=some (Aa Ab (k:Int))from rfl);have B2:=HBr.out.alloc HBr.out.size (Af #[Aa Ab op,Ac s,Aa Ab t,Aa Ab v,Ae b,Ad A1 n1 c1,Ad A2 n2 c2] 28);have hdrop:l.drop i=x :: l.drop (i+1):=by rw [List.drop_eq_getElem_cons hi];congr 1;exact Ay.inj ((AG hi).symm.trans hix)
   have hQ:=HQ.out;rw [hdrop,qz3]at hQ;have hmem:x ∈ l:=List.mem_of_getElem? hix;have HKr2:=Aside0.mk (qb HKr.out (Af #[Aa Ab op,Ac s,Aa Ab t,Aa Ab v,Ae b,Ad A1 n1 c1,Ad A2 n2 c2] 28));have HB2:=Aside0.mk B2;have hw1:wrap64 ((i:Int)+1)=((i+1:Nat):Int):=by have:=HLen.out;unfold wrap64;omega
   by_cases hk2:2≤k
   ·rw [if_pos hk2]at hQ;subst hQ;have hk3:decide ((k:Int)<2)=false:=by simp;omega
    clear hdrop hmem hk2 B2 HQ hRx;go_wp2_with fail
    refine(qv3 _ _).mono ?_;rintro e w2 ⟨rfl,rfl⟩;exact⟨rfl,HB2.out,rfl⟩
   ·rw [if_neg hk2]at hQ;have hk3:decide ((k:Int)<2)=true:=by simp;omega
    have hk4:wrap64 ((k:Int)+1)=((k+1:Nat):Int):=by unfold wrap64;omega
    have hc:=HL.out x hmem (k+1) _ F op s t v b A1 n1 c1 A2 n2 c2 (by omega) (hRx.keeps (Keeps.of_below ((Ao wr.heap.size wr).alloc (Ag _) (Af #[Aa Ab op,Ac s,Aa Ab t,Aa Ab v,Ae b,Ad A1 n1 c1,Ad A2 n2 c2] 28)))) (qo5 HAll.out hmem) (qn6 HWf.out hmem);clear hdrop hmem hk2 B2 HQ hRx;have HQ2:=Aside0.mk hQ;clear hQ;generalize qw1 x (k+1)=q at hc HQ2;go_wp2_with fail
    refine(qu3 _ _).mono ?_;rintro e w2 ⟨rfl,rfl⟩;go_wp2_with fail
    cases q with
    | error n=>
     have hRn:(Except.error n:Except Int Unit)=R:=HQ2.out;subst hRn;refine hc.mono ?_;rintro e w3 ⟨b3,he⟩;have he:e=qw7 n:=he;subst he;exact⟨rfl,HB2.out.trans (b3.mono HB2.out.size),rfl⟩
    | ok ty=>
     have HQ3:Aside0 (qz3 (l.drop (i+1)) k=R):=⟨HQ2.out⟩;refine hc.mono ?_;rintro e w3 ⟨b3,v1,rfl,rfl⟩;have HB3:=Aside0.mk (HB2.out.trans (b3.mono HB2.out.size));have HK3:=Aside0.mk (qn HKr2.out b3);clear b3 hc kc0;go_wp2_with fail
     obtain⟨g2,rfl⟩:∃ g2,gk=g2+1:=⟨gk - 1,zan⟩;go_roundg g2
     case measure=>omega
     case rel=>exact⟨i+1,congrArg (Value.int .i64) hw1,⟨zan⟩,HB3,HK3,HQ3⟩
  ·have hlt:decide ((i:Int)<(l.length:Int))=false:=by simp;omega
   have hlt2:decide (i<l.length)=false:=by simp;omega
   have hQ:=HQ.out;rw [List.drop_eq_nil_of_le (by omega),qz3]at hQ;subst hQ;clear HQ hi;go_wp2_with fail
   first | go_end0 | refine bodyPost_ret (results_none rfl _ _ _) rfl ?_
   exact⟨HBr.out,_,rfl,rfl⟩
end Go.Proofs.YtocdckniokhbbaaGreatDoor.Syn
namespace Go.Proofs.YtocdckniokhbbaaGreatDoor.Syn
open Go.RowKit Go.Shelf YtocdckniokhbbaaGreatDoorW.PrintWords YtocdckniokhbbaaGreatDoorW.PrintLast YtocdckniokhbbaaGreatDoorW.PrintMore CharB SpanA FigD LexA LexF
theorem AnsC.err {α:Type} {f:FuncId} {args:Array Value} {W:World} {R:α→Value→Prop} {n:Int} (h:Calls Aj f args W (AnsC W R (.error n))) (v:Value) :
  Calls Aj f args W fun e w'=>(e=qw7 n∧Below W.heap.size W w')∨(e= .returned v∧w'=W∧Aside0 False):=h.mono fun e w' ⟨hf,he⟩=> .inl ⟨he,hf⟩
theorem AnsC.okk {α:Type} {f:FuncId} {args:Array Value} {W:World} {R:α→Value→Prop} {x:α} (h:Calls Aj f args W (AnsC W R (.ok x))) :
  Calls Aj f args W fun e w'=>∃ v,e= .returned v∧R x v∧Below W.heap.size W w':=h.mono fun e w' ⟨hf,v,he,hr⟩=>⟨v,he,hr,hf⟩
theorem any_c (x:Int) (w:World):Calls Aj 69 #[Aa Ab x] w fun e w'=>e= .returned (Ae true)∧w'=w:=by
 go_enter Tryz.func69,Tryz.ntmps69;go_wp2_with fail
 go_ret;exact⟨rfl,rfl⟩
theorem qh20 (x:Int) (w:World):Calls Aj 71 #[Aa Ab x] w fun e w'=>e= .returned (Ae (x == 1))∧w'=w:=by
 go_enter Tryz.func71,Tryz.ntmps71;go_wp2_with fail
 go_ret;exact⟨rfl,rfl⟩
theorem qn18 {x y:Ex} (hx:OfC x) (hy:OfC y) (k:Nat) (w:World) (F:Nat→Prop) (op:Int) (s:ByteArray) (t v:Int) (b:Bool) (A1:Option Addr) (c1:Nat) (A2:Option Addr) (n2 c2:Nat) (xs:List Value) (hk:k≤2) (hKR:RepR F w [x,y] xs) (hKW:Row F w A1 xs) (hrx:qt3 x=true) (hry:qt3 y=true) (hwx:wfE x) (hwy:wfE y) :
  Calls Aj 70 #[.agg #[Aa Ab (k:Int)],.agg #[Aa Ab op,Ac s,Aa Ab t,Aa Ab v,Ae b,Ad A1 2 c1,Ad A2 n2 c2],.func (.func 69) #[] #[]] w (AnsC w (fun _ v=>v= .tuple #[]) ((qw1 x k).bind fun _=>(qw1 y k).bind fun _=> .ok ())):=by
 obtain⟨a,rfl⟩:∃ a,A1=some a:=by obtain⟨a,_,_,_,_,_,_,_,_,_,_,_,h,_⟩:=Row.exp hKR hKW 0 x rfl;exact⟨a,h⟩
 have B1:=(Ao w.heap.size w).alloc (Ag _) (Af #[Aa Ab (k:Int)] 83);have B2:=B1.alloc B1.size (Af #[Aa Ab op,Ac s,Aa Ab t,Aa Ab v,Ae b,Ad (some a) 2 c1,Ad A2 n2 c2] 28);have hRk:=hKR.keeps (Keeps.of_below B2);have hWk:=hKW.keeps (Keeps.of_below B2);obtain⟨ax,opx,sx,tx,vx,bx,A1x,n1x,c1x,A2x,n2x,c2x,hax,_,hbx,hRx,x0,x1,x2,x3,x4,x5,x6⟩:=Row.exp0 hRk hWk x rfl;obtain⟨az,opz,sz,tz,vz,bz,A1z,n1z,c1z,A2z,n2z,c2z,haz,_,hbz,hRz,z0,z1,z2,z3,z4,z5,z6⟩:=Row.exp1 hRk hWk y rfl
 cases hax
 cases haz
 have HB2:=Aside0.mk B2;have hcx:=hx k ((w.alloc (Af #[Aa Ab (k:Int)] 83)).alloc (Af #[Aa Ab op,Ac s,Aa Ab t,Aa Ab v,Ae b,Ad (some a) 2 c1,Ad A2 n2 c2] 28)).drew F opx sx tx vx bx A1x n1x c1x A2x n2x c2x hk (hRx.keeps (Keeps.of_below (AQ (Ao _ _)))) hrx hwx;have hcy:=fun W (hb:Below ((w.alloc (Af #[Aa Ab (k:Int)] 83)).alloc (Af #[Aa Ab op,Ac s,Aa Ab t,Aa Ab v,Ae b,Ad (some a) 2 c1,Ad A2 n2 c2] 28)).heap.size ((w.alloc (Af #[Aa Ab (k:Int)] 83)).alloc (Af #[Aa Ab op,Ac s,Aa Ab t,Aa Ab v,Ae b,Ad (some a) 2 c1,Ad A2 n2 c2] 28)) W)=>hy k W F opz sz tz vz bz A1z n1z c1z A2z n2z c2z hk (hRz.keeps (Keeps.of_below hb)) hry hwy;have hK:=qb (qr w (Af #[Aa Ab (k:Int)] 83)) (Af #[Aa Ab op,Ac s,Aa Ab t,Aa Ab v,Ae b,Ad (some a) 2 c1,Ad A2 n2 c2] 28);have hE:=qr (w.alloc (Af #[Aa Ab (k:Int)] 83)) (Af #[Aa Ab op,Ac s,Aa Ab t,Aa Ab v,Ae b,Ad (some a) 2 c1,Ad A2 n2 c2] 28);rw [qo]at hE;have HK2:=Aside0.mk hK;have HE2:=Aside0.mk hE;have HY:=Aside0.mk hcy;have HS:=Aside0.mk (show((w.alloc (Af #[Aa Ab (k:Int)] 83)).alloc (Af #[Aa Ab op,Ac s,Aa Ab t,Aa Ab v,Ae b,Ad (some a) 2 c1,Ad A2 n2 c2] 28)).heap.size=w.heap.size+2 by simp);clear hcy;generalize qw1 x k=q at hcx ⊢;have hY:=HY.out;clear HY;generalize qw1 y k=q2 at hY ⊢;have HY:=Aside0.mk hY;clear hY;clear hRx hRz hrx hry hwx hwy hx hy hRk hWk hKR hKW hK hE B1 B2 hk
 cases q with
 | error n=>
  go_enter Ck,Ch;go_wp2_with fail
  have hcx:=AnsC.err hcx (Aa Ab 0);go_region_with (first | (go_at_call 39;refine hcx.mono ?_;rintro e w3 (⟨rfl,b3⟩ | ⟨rfl,rfl,hF⟩);exact⟨rfl,HB2.out.trans ((AQ (Ao _ _)).trans (b3.mono (Ag _)) |>.mono HB2.out.size),rfl⟩))
  all_goals exact hF.out.elim
 | ok tx1=>
  have hcx:=AnsC.okk hcx
  cases q2 with
  | error n=>
   have HY:=Aside0.mk (show ∀ W,Below ((w.alloc (Af #[Aa Ab (k:Int)] 83)).alloc (Af #[Aa Ab op,Ac s,Aa Ab t,Aa Ab v,Ae b,Ad (some a) 2 c1,Ad A2 n2 c2] 28)).heap.size ((w.alloc (Af #[Aa Ab (k:Int)] 83)).alloc (Af #[Aa Ab op,Ac s,Aa Ab t,Aa Ab v,Ae b,Ad (some a) 2 c1,Ad A2 n2 c2] 28)) W→_ from fun W hb=>AnsC.err (HY.out W hb) (Aa Ab 0));go_enter Ck,Ch;go_wp2_with fail
   go_cut [6] (fun s6 wc=>s6= Aa Ab tx1∧Aside0 (wc.heap[w.heap.size]?=some (Af #[Aa Ab (k:Int)] 83 (0,0)))∧Aside0 (wc.heap[w.heap.size+1]?=some (Af #[Aa Ab op,Ac s,Aa Ab t,Aa Ab v,Ae b,Ad (some a) 2 c1,Ad A2 n2 c2] 28 (0,0)))∧Aside0 (Below ((w.alloc (Af #[Aa Ab (k:Int)] 83)).alloc (Af #[Aa Ab op,Ac s,Aa Ab t,Aa Ab v,Ae b,Ad (some a) 2 c1,Ad A2 n2 c2] 28)).heap.size ((w.alloc (Af #[Aa Ab (k:Int)] 83)).alloc (Af #[Aa Ab op,Ac s,Aa Ab t,Aa Ab v,Ae b,Ad (some a) 2 c1,Ad A2 n2 c2] 28)) wc))
   case first=>
    first | (go_region_with (first | (go_at_call 39;refine hcx.mono ?_;rintro e w3 ⟨v3,rfl,rfl,b3⟩;have b3w:=(AQ (Ao ((w.alloc (Af #[Aa Ab (k:Int)] 83)).alloc (Af #[Aa Ab op,Ac s,Aa Ab t,Aa Ab v,Ae b,Ad (some a) 2 c1,Ad A2 n2 c2] 28)).heap.size ((w.alloc (Af #[Aa Ab (k:Int)] 83)).alloc (Af #[Aa Ab op,Ac s,Aa Ab t,Aa Ab v,Ae b,Ad (some a) 2 c1,Ad A2 n2 c2] 28)))).trans b3;have HK3:=Aside0.mk (qn HK2.out b3w);have HE3:=Aside0.mk (qn HE2.out b3w);have HBw:=Aside0.mk b3w;clear b3 b3w))) | fail
    all_goals (go_wp2_with fail;go_meet;exact⟨rfl,HK3,HE3,HBw⟩)
   case rest=>
    obtain⟨rfl,HK3,HE3,HBw⟩:=hcut
    rename World=>w3
    have HB3:=Aside0.mk (HB2.out.trans (HBw.out.mono HB2.out.size));have hcy:=HY.out _ (AQ HBw.out);have y0:=(HBw.out.cell (p:=⟨a.block,a.off+7,none⟩) hbz).trans z0;have y1:=(HBw.out.cell (p:=⟨a.block,a.off+8,none⟩) hbz).trans z1;have y2:=(HBw.out.cell (p:=⟨a.block,a.off+9,none⟩) hbz).trans z2;have y3:=(HBw.out.cell (p:=⟨a.block,a.off+10,none⟩) hbz).trans z3;have y4:=(HBw.out.cell (p:=⟨a.block,a.off+11,none⟩) hbz).trans z4;have y5:=(HBw.out.cell (p:=⟨a.block,a.off+12,none⟩) hbz).trans z5;have y6:=(HBw.out.cell (p:=⟨a.block,a.off+13,none⟩) hbz).trans z6;have kc0:=(Ai HK3.out 0).trans (show _=some (Aa Ab (k:Int))from rfl);have ec5:=(Ai HE3.out 5).trans (show _=some (Ad (some a) 2 c1)from rfl);clear z0 z1 z2 z3 z4 z5 z6 x0 x1 x2 x3 x4 x5 x6 hcx;go_wp2_with fail
    go_region_with (first | (go_at_call 39;refine hcy.mono ?_;rintro e w4 (⟨rfl,b4⟩ | ⟨rfl,rfl,hF⟩);exact⟨rfl,HB3.out.trans (((AQ (Ao w3.heap.size w3)).trans b4).mono HB3.out.size),rfl⟩))
    all_goals exact hF.out.elim
  | ok ty1=>
   have HY:=Aside0.mk (show ∀ W,Below ((w.alloc (Af #[Aa Ab (k:Int)] 83)).alloc (Af #[Aa Ab op,Ac s,Aa Ab t,Aa Ab v,Ae b,Ad (some a) 2 c1,Ad A2 n2 c2] 28)).heap.size ((w.alloc (Af #[Aa Ab (k:Int)] 83)).alloc (Af #[Aa Ab op,Ac s,Aa Ab t,Aa Ab v,Ae b,Ad (some a) 2 c1,Ad A2 n2 c2] 28)) W→_ from fun W hb=>AnsC.okk (HY.out W hb));go_enter Ck,Ch;go_wp2_with fail
   go_cut [6] (fun s6 wc=>s6= Aa Ab tx1∧Aside0 (wc.heap[w.heap.size]?=some (Af #[Aa Ab (k:Int)] 83 (0,0)))∧Aside0 (wc.heap[w.heap.size+1]?=some (Af #[Aa Ab op,Ac s,Aa Ab t,Aa Ab v,Ae b,Ad (some a) 2 c1,Ad A2 n2 c2] 28 (0,0)))∧Aside0 (Below ((w.alloc (Af #[Aa Ab (k:Int)] 83)).alloc (Af #[Aa Ab op,Ac s,Aa Ab t,Aa Ab v,Ae b,Ad (some a) 2 c1,Ad A2 n2 c2] 28)).heap.size ((w.alloc (Af #[Aa Ab (k:Int)] 83)).alloc (Af #[Aa Ab op,Ac s,Aa Ab t,Aa Ab v,Ae b,Ad (some a) 2 c1,Ad A2 n2 c2] 28)) wc))
   case first=>
    first | (go_region_with (first | (go_at_call 39;refine hcx.mono ?_;rintro e w3 ⟨v3,rfl,rfl,b3⟩;have b3w:=(AQ (Ao ((w.alloc (Af #[Aa Ab (k:Int)] 83)).alloc (Af #[Aa Ab op,Ac s,Aa Ab t,Aa Ab v,Ae b,Ad (some a) 2 c1,Ad A2 n2 c2] 28)).heap.size ((w.alloc (Af #[Aa Ab (k:Int)] 83)).alloc (Af #[Aa Ab op,Ac s,Aa Ab t,Aa Ab v,Ae b,Ad (some a) 2 c1,Ad A2 n2 c2] 28)))).trans b3;have HK3:=Aside0.mk (qn HK2.out b3w);have HE3:=Aside0.mk (qn HE2.out b3w);have HBw:=Aside0.mk b3w;clear b3 b3w))) | fail
    all_goals (go_wp2_with fail;go_meet;exact⟨rfl,HK3,HE3,HBw⟩)
   case rest=>
    obtain⟨rfl,HK3,HE3,HBw⟩:=hcut
    rename World=>w3
    have HB3:=Aside0.mk (HB2.out.trans (HBw.out.mono HB2.out.size));have hcy:=HY.out _ (AQ HBw.out);have y0:=(HBw.out.cell (p:=⟨a.block,a.off+7,none⟩) hbz).trans z0;have y1:=(HBw.out.cell (p:=⟨a.block,a.off+8,none⟩) hbz).trans z1;have y2:=(HBw.out.cell (p:=⟨a.block,a.off+9,none⟩) hbz).trans z2;have y3:=(HBw.out.cell (p:=⟨a.block,a.off+10,none⟩) hbz).trans z3;have y4:=(HBw.out.cell (p:=⟨a.block,a.off+11,none⟩) hbz).trans z4;have y5:=(HBw.out.cell (p:=⟨a.block,a.off+12,none⟩) hbz).trans z5;have y6:=(HBw.out.cell (p:=⟨a.block,a.off+13,none⟩) hbz).trans z6;have kc0:=(Ai HK3.out 0).trans (show _=some (Aa Ab (k:Int))from rfl);have ec5:=(Ai HE3.out 5).trans (show _=some (Ad (some a) 2 c1)from rfl);clear z0 z1 z2 z3 z4 z5 z6 x0 x1 x2 x3 x4 x5 x6 hcx;go_wp2_with fail
    go_cut [7] (fun s7 wc=>s7= Aa Ab ty1∧Aside0 (Below w.heap.size w wc))
    case first=>
     first | (go_region_with (first | (go_at_call 39;refine hcy.mono ?_;rintro e w4 ⟨v4,rfl,rfl,b4⟩;have HB4:=Aside0.mk (HB3.out.trans (((AQ (Ao w3.heap.size w3)).trans b4).mono HB3.out.size));clear b4))) | fail
     all_goals (go_wp2_with fail;go_meet;exact⟨rfl,HB4⟩)
    case rest=>
     obtain⟨rfl,HB4⟩:=hcut
     rename World=>w4
     clear hcy y0 y1 y2 y3 y4 y5 y6 kc0 ec5;go_wp2_with fail
     refine(any_c _ _).mono ?_;rintro e w5 ⟨rfl,rfl⟩;go_wp2_with fail
     refine(any_c _ _).mono ?_;rintro e w6 ⟨rfl,rfl⟩;go_wp2_with fail
     refine(qu3 _ _).mono ?_;rintro e w7 ⟨rfl,rfl⟩;go_wp2_with fail
     first | go_end0 | refine bodyPost_ret (results_none rfl _ _ _) rfl ?_
     exact⟨HB4.out,_,rfl,rfl⟩
end Go.Proofs.YtocdckniokhbbaaGreatDoor.Syn
namespace Go.Proofs.YtocdckniokhbbaaGreatDoor.Syn
open Go.RowKit Go.Shelf YtocdckniokhbbaaGreatDoorW.PrintWords YtocdckniokhbbaaGreatDoorW.PrintLast YtocdckniokhbbaaGreatDoorW.PrintMore CharB SpanA FigD LexA LexF
theorem qe14 {x y:Ex} (hx:OfC x) (hy:OfC y) (k:Nat) (w:World) (F:Nat→Prop) (op:Int) (s:ByteArray) (t v:Int) (b:Bool) (A1:Option Addr) (c1:Nat) (A2:Option Addr) (n2 c2:Nat) (xs:List Value) (hk:k≤2) (hKR:RepR F w [x,y] xs) (hKW:Row F w A1 xs) (hrx:qt3 x=true) (hry:qt3 y=true) (hwx:wfE x) (hwy:wfE y) :
  Calls Aj 70 #[.agg #[Aa Ab (k:Int)],.agg #[Aa Ab op,Ac s,Aa Ab t,Aa Ab v,Ae b,Ad A1 2 c1,Ad A2 n2 c2],.func (.func 71) #[] #[]] w (AnsC w (fun _ v=>v= .tuple #[]) ((qw1 x k).bind fun a=>(qw1 y k).bind fun b=>if a=1∧b=1 then .ok ()else .error 35)):=by
 obtain⟨a,rfl⟩:∃ a,A1=some a:=by obtain⟨a,_,_,_,_,_,_,_,_,_,_,_,h,_⟩:=Row.exp hKR hKW 0 x rfl;exact⟨a,h⟩
 have B1:=(Ao w.heap.size w).alloc (Ag _) (Af #[Aa Ab (k:Int)] 83);have B2:=B1.alloc B1.size (Af #[Aa Ab op,Ac s,Aa Ab t,Aa Ab v,Ae b,Ad (some a) 2 c1,Ad A2 n2 c2] 28);have hRk:=hKR.keeps (Keeps.of_below B2);have hWk:=hKW.keeps (Keeps.of_below B2);obtain⟨ax,opx,sx,tx,vx,bx,A1x,n1x,c1x,A2x,n2x,c2x,hax,_,hbx,hRx,x0,x1,x2,x3,x4,x5,x6⟩:=Row.exp0 hRk hWk x rfl;obtain⟨az,opz,sz,tz,vz,bz,A1z,n1z,c1z,A2z,n2z,c2z,haz,_,hbz,hRz,z0,z1,z2,z3,z4,z5,z6⟩:=Row.exp1 hRk hWk y rfl
 cases hax
 cases haz
 have HB2:=Aside0.mk B2;have hcx:=hx k ((w.alloc (Af #[Aa Ab (k:Int)] 83)).alloc (Af #[Aa Ab op,Ac s,Aa Ab t,Aa Ab v,Ae b,Ad (some a) 2 c1,Ad A2 n2 c2] 28)).drew F opx sx tx vx bx A1x n1x c1x A2x n2x c2x hk (hRx.keeps (Keeps.of_below (AQ (Ao _ _)))) hrx hwx;have hcy:=fun W (hb:Below ((w.alloc (Af #[Aa Ab (k:Int)] 83)).alloc (Af #[Aa Ab op,Ac s,Aa Ab t,Aa Ab v,Ae b,Ad (some a) 2 c1,Ad A2 n2 c2] 28)).heap.size ((w.alloc (Af #[Aa Ab (k:Int)] 83)).alloc (Af #[Aa Ab op,Ac s,Aa Ab t,Aa Ab v,Ae b,Ad (some a) 2 c1,Ad A2 n2 c2] 28)) W)=>hy k W F opz sz tz vz bz A1z n1z c1z A2z n2z c2z hk (hRz.keeps (Keeps.of_below hb)) hry hwy;have hK:=qb (qr w (Af #[Aa Ab (k:Int)] 83)) (Af #[Aa Ab op,Ac s,Aa Ab t,Aa Ab v,Ae b,Ad (some a) 2 c1,Ad A2 n2 c2] 28);have hE:=qr (w.alloc (Af #[Aa Ab (k:Int)] 83)) (Af #[Aa Ab op,Ac s,Aa Ab t,Aa Ab v,Ae b,Ad (some a) 2 c1,Ad A2 n2 c2] 28);rw [qo]at hE;have HK2:=Aside0.mk hK;have HE2:=Aside0.mk hE;have HY:=Aside0.mk hcy;have HS:=Aside0.mk (show((w.alloc (Af #[Aa Ab (k:Int)] 83)).alloc (Af #[Aa Ab op,Ac s,Aa Ab t,Aa Ab v,Ae b,Ad (some a) 2 c1,Ad A2 n2 c2] 28)).heap.size=w.heap.size+2 by simp);clear hcy;generalize qw1 x k=q at hcx ⊢;have hY:=HY.out;clear HY;generalize qw1 y k=q2 at hY ⊢;have HY:=Aside0.mk hY;clear hY;clear hRx hRz hrx hry hwx hwy hx hy hRk hWk hKR hKW hK hE B1 B2 hk
 cases q with
 | error n=>
  go_enter Ck,Ch;go_wp2_with fail
  have hcx:=AnsC.err hcx (Aa Ab 0);go_region_with (first | (go_at_call 39;refine hcx.mono ?_;rintro e w3 (⟨rfl,b3⟩ | ⟨rfl,rfl,hF⟩);exact⟨rfl,HB2.out.trans ((AQ (Ao _ _)).trans (b3.mono (Ag _)) |>.mono HB2.out.size),rfl⟩))
  all_goals exact hF.out.elim
 | ok tx1=>
  have hcx:=AnsC.okk hcx
  cases q2 with
  | error n=>
   have HY:=Aside0.mk (show ∀ W,Below ((w.alloc (Af #[Aa Ab (k:Int)] 83)).alloc (Af #[Aa Ab op,Ac s,Aa Ab t,Aa Ab v,Ae b,Ad (some a) 2 c1,Ad A2 n2 c2] 28)).heap.size ((w.alloc (Af #[Aa Ab (k:Int)] 83)).alloc (Af #[Aa Ab op,Ac s,Aa Ab t,Aa Ab v,Ae b,Ad (some a) 2 c1,Ad A2 n2 c2] 28)) W→_ from fun W hb=>AnsC.err (HY.out W hb) (Aa Ab 0));go_enter Ck,Ch;go_wp2_with fail
   go_cut [6] (fun s6 wc=>s6= Aa Ab tx1∧Aside0 (wc.heap[w.heap.size]?=some (Af #[Aa Ab (k:Int)] 83 (0,0)))∧Aside0 (wc.heap[w.heap.size+1]?=some (Af #[Aa Ab op,Ac s,Aa Ab t,Aa Ab v,Ae b,Ad (some a) 2 c1,Ad A2 n2 c2] 28 (0,0)))∧Aside0 (Below ((w.alloc (Af #[Aa Ab (k:Int)] 83)).alloc (Af #[Aa Ab op,Ac s,Aa Ab t,Aa Ab v,Ae b,Ad (some a) 2 c1,Ad A2 n2 c2] 28)).heap.size ((w.alloc (Af #[Aa Ab (k:Int)] 83)).alloc (Af #[Aa Ab op,Ac s,Aa Ab t,Aa Ab v,Ae b,Ad (some a) 2 c1,Ad A2 n2 c2] 28)) wc))
   case first=>
    first | (go_region_with (first | (go_at_call 39;refine hcx.mono ?_;rintro e w3 ⟨v3,rfl,rfl,b3⟩;have b3w:=(AQ (Ao ((w.alloc (Af #[Aa Ab (k:Int)] 83)).alloc (Af #[Aa Ab op,Ac s,Aa Ab t,Aa Ab v,Ae b,Ad (some a) 2 c1,Ad A2 n2 c2] 28)).heap.size ((w.alloc (Af #[Aa Ab (k:Int)] 83)).alloc (Af #[Aa Ab op,Ac s,Aa Ab t,Aa Ab v,Ae b,Ad (some a) 2 c1,Ad A2 n2 c2] 28)))).trans b3;have HK3:=Aside0.mk (qn HK2.out b3w);have HE3:=Aside0.mk (qn HE2.out b3w);have HBw:=Aside0.mk b3w;clear b3 b3w))) | fail
    all_goals (go_wp2_with fail;go_meet;exact⟨rfl,HK3,HE3,HBw⟩)
   case rest=>
    obtain⟨rfl,HK3,HE3,HBw⟩:=hcut
    rename World=>w3
    have HB3:=Aside0.mk (HB2.out.trans (HBw.out.mono HB2.out.size));have hcy:=HY.out _ (AQ HBw.out);have y0:=(HBw.out.cell (p:=⟨a.block,a.off+7,none⟩) hbz).trans z0;have y1:=(HBw.out.cell (p:=⟨a.block,a.off+8,none⟩) hbz).trans z1;have y2:=(HBw.out.cell (p:=⟨a.block,a.off+9,none⟩) hbz).trans z2;have y3:=(HBw.out.cell (p:=⟨a.block,a.off+10,none⟩) hbz).trans z3;have y4:=(HBw.out.cell (p:=⟨a.block,a.off+11,none⟩) hbz).trans z4;have y5:=(HBw.out.cell (p:=⟨a.block,a.off+12,none⟩) hbz).trans z5;have y6:=(HBw.out.cell (p:=⟨a.block,a.off+13,none⟩) hbz).trans z6;have kc0:=(Ai HK3.out 0).trans (show _=some (Aa Ab (k:Int))from rfl);have ec5:=(Ai HE3.out 5).trans (show _=some (Ad (some a) 2 c1)from rfl);clear z0 z1 z2 z3 z4 z5 z6 x0 x1 x2 x3 x4 x5 x6 hcx;go_wp2_with fail
    go_region_with (first | (go_at_call 39;refine hcy.mono ?_;rintro e w4 (⟨rfl,b4⟩ | ⟨rfl,rfl,hF⟩);exact⟨rfl,HB3.out.trans (((AQ (Ao w3.heap.size w3)).trans b4).mono HB3.out.size),rfl⟩))
    all_goals exact hF.out.elim
  | ok ty1=>
   have HY:=Aside0.mk (show ∀ W,Below ((w.alloc (Af #[Aa Ab (k:Int)] 83)).alloc (Af #[Aa Ab op,Ac s,Aa Ab t,Aa Ab v,Ae b,Ad (some a) 2 c1,Ad A2 n2 c2] 28)).heap.size ((w.alloc (Af #[Aa Ab (k:Int)] 83)).alloc (Af #[Aa Ab op,Ac s,Aa Ab t,Aa Ab v,Ae b,Ad (some a) 2 c1,Ad A2 n2 c2] 28)) W→_ from fun W hb=>AnsC.okk (HY.out W hb));by_cases g1:tx1=1
   ·by_cases g2:ty1=1
    ·rw [show((BN tx1:Except Int Int).bind fun a=>(BN ty1:Except Int Int).bind fun b=>if a=1∧b=1 then BN ()else Except.error 35)=(.ok ():Except Int Unit)from if_pos ⟨g1,g2⟩];have d1:(tx1 == 1)=true:=by simpa using g1
     have d2:(ty1 == 1)=true:=by simpa using g2
     clear g1 g2;go_enter Ck,Ch;go_wp2_with fail
     go_cut [6] (fun s6 wc=>s6= Aa Ab tx1∧Aside0 (wc.heap[w.heap.size]?=some (Af #[Aa Ab (k:Int)] 83 (0,0)))∧Aside0 (wc.heap[w.heap.size+1]?=some (Af #[Aa Ab op,Ac s,Aa Ab t,Aa Ab v,Ae b,Ad (some a) 2 c1,Ad A2 n2 c2] 28 (0,0)))∧Aside0 (Below ((w.alloc (Af #[Aa Ab (k:Int)] 83)).alloc (Af #[Aa Ab op,Ac s,Aa Ab t,Aa Ab v,Ae b,Ad (some a) 2 c1,Ad A2 n2 c2] 28)).heap.size ((w.alloc (Af #[Aa Ab (k:Int)] 83)).alloc (Af #[Aa Ab op,Ac s,Aa Ab t,Aa Ab v,Ae b,Ad (some a) 2 c1,Ad A2 n2 c2] 28)) wc))
     case first=>
      first | (go_region_with (first | (go_at_call 39;refine hcx.mono ?_;rintro e w3 ⟨v3,rfl,rfl,b3⟩;have b3w:=(AQ (Ao ((w.alloc (Af #[Aa Ab (k:Int)] 83)).alloc (Af #[Aa Ab op,Ac s,Aa Ab t,Aa Ab v,Ae b,Ad (some a) 2 c1,Ad A2 n2 c2] 28)).heap.size ((w.alloc (Af #[Aa Ab (k:Int)] 83)).alloc (Af #[Aa Ab op,Ac s,Aa Ab t,Aa Ab v,Ae b,Ad (some a) 2 c1,Ad A2 n2 c2] 28)))).trans b3;have HK3:=Aside0.mk (qn HK2.out b3w);have HE3:=Aside0.mk (qn HE2.out b3w);have HBw:=Aside0.mk b3w;clear b3 b3w))) | fail
      all_goals (go_wp2_with fail;go_meet;exact⟨rfl,HK3,HE3,HBw⟩)
     case rest=>
      obtain⟨rfl,HK3,HE3,HBw⟩:=hcut
      rename World=>w3
      have HB3:=Aside0.mk (HB2.out.trans (HBw.out.mono HB2.out.size));have hcy:=HY.out _ (AQ HBw.out);have y0:=(HBw.out.cell (p:=⟨a.block,a.off+7,none⟩) hbz).trans z0;have y1:=(HBw.out.cell (p:=⟨a.block,a.off+8,none⟩) hbz).trans z1;have y2:=(HBw.out.cell (p:=⟨a.block,a.off+9,none⟩) hbz).trans z2;have y3:=(HBw.out.cell (p:=⟨a.block,a.off+10,none⟩) hbz).trans z3;have y4:=(HBw.out.cell (p:=⟨a.block,a.off+11,none⟩) hbz).trans z4;have y5:=(HBw.out.cell (p:=⟨a.block,a.off+12,none⟩) hbz).trans z5;have y6:=(HBw.out.cell (p:=⟨a.block,a.off+13,none⟩) hbz).trans z6;have kc0:=(Ai HK3.out 0).trans (show _=some (Aa Ab (k:Int))from rfl);have ec5:=(Ai HE3.out 5).trans (show _=some (Ad (some a) 2 c1)from rfl);clear z0 z1 z2 z3 z4 z5 z6 x0 x1 x2 x3 x4 x5 x6 hcx;go_wp2_with fail
      go_cut [7] (fun s7 wc=>s7= Aa Ab ty1∧Aside0 (Below w.heap.size w wc))
      case first=>
       first | (go_region_with (first | (go_at_call 39;refine hcy.mono ?_;rintro e w4 ⟨v4,rfl,rfl,b4⟩;have HB4:=Aside0.mk (HB3.out.trans (((AQ (Ao w3.heap.size w3)).trans b4).mono HB3.out.size));clear b4))) | fail
       all_goals (go_wp2_with fail;go_meet;exact⟨rfl,HB4⟩)
      case rest=>
       obtain⟨rfl,HB4⟩:=hcut
       rename World=>w4
       clear hcy y0 y1 y2 y3 y4 y5 y6 kc0 ec5;go_wp2_with fail
       refine(qh20 _ _).mono ?_;rintro e w5 ⟨rfl,rfl⟩;go_wp2_with fail
       refine(qh20 _ _).mono ?_;rintro e w6 ⟨rfl,rfl⟩;go_wp2_with fail
       refine(qu3 _ _).mono ?_;rintro e w7 ⟨rfl,rfl⟩;go_wp2_with fail
       first | go_end0 | refine bodyPost_ret (results_none rfl _ _ _) rfl ?_
       exact⟨HB4.out,_,rfl,rfl⟩
    ·rw [show((BN tx1:Except Int Int).bind fun a=>(BN ty1:Except Int Int).bind fun b=>if a=1∧b=1 then BN ()else Except.error 35)=(.error 35:Except Int Unit)from if_neg (fun h=>g2 h.2)];have d1:(tx1 == 1)=true:=by simpa using g1
     have d2:(ty1 == 1)=false:=by simpa using g2
     clear g1 g2;go_enter Ck,Ch;go_wp2_with fail
     go_cut [6] (fun s6 wc=>s6= Aa Ab tx1∧Aside0 (wc.heap[w.heap.size]?=some (Af #[Aa Ab (k:Int)] 83 (0,0)))∧Aside0 (wc.heap[w.heap.size+1]?=some (Af #[Aa Ab op,Ac s,Aa Ab t,Aa Ab v,Ae b,Ad (some a) 2 c1,Ad A2 n2 c2] 28 (0,0)))∧Aside0 (Below ((w.alloc (Af #[Aa Ab (k:Int)] 83)).alloc (Af #[Aa Ab op,Ac s,Aa Ab t,Aa Ab v,Ae b,Ad (some a) 2 c1,Ad A2 n2 c2] 28)).heap.size ((w.alloc (Af #[Aa Ab (k:Int)] 83)).alloc (Af #[Aa Ab op,Ac s,Aa Ab t,Aa Ab v,Ae b,Ad (some a) 2 c1,Ad A2 n2 c2] 28)) wc))
     case first=>
      first | (go_region_with (first | (go_at_call 39;refine hcx.mono ?_;rintro e w3 ⟨v3,rfl,rfl,b3⟩;have b3w:=(AQ (Ao ((w.alloc (Af #[Aa Ab (k:Int)] 83)).alloc (Af #[Aa Ab op,Ac s,Aa Ab t,Aa Ab v,Ae b,Ad (some a) 2 c1,Ad A2 n2 c2] 28)).heap.size ((w.alloc (Af #[Aa Ab (k:Int)] 83)).alloc (Af #[Aa Ab op,Ac s,Aa Ab t,Aa Ab v,Ae b,Ad (some a) 2 c1,Ad A2 n2 c2] 28)))).trans b3;have HK3:=Aside0.mk (qn HK2.out b3w);have HE3:=Aside0.mk (qn HE2.out b3w);have HBw:=Aside0.mk b3w;clear b3 b3w))) | fail
      all_goals (go_wp2_with fail;go_meet;exact⟨rfl,HK3,HE3,HBw⟩)
     case rest=>
      obtain⟨rfl,HK3,HE3,HBw⟩:=hcut
      rename World=>w3
      have HB3:=Aside0.mk (HB2.out.trans (HBw.out.mono HB2.out.size));have hcy:=HY.out _ (AQ HBw.out);have y0:=(HBw.out.cell (p:=⟨a.block,a.off+7,none⟩) hbz).trans z0;have y1:=(HBw.out.cell (p:=⟨a.block,a.off+8,none⟩) hbz).trans z1;have y2:=(HBw.out.cell (p:=⟨a.block,a.off+9,none⟩) hbz).trans z2;have y3:=(HBw.out.cell (p:=⟨a.block,a.off+10,none⟩) hbz).trans z3;have y4:=(HBw.out.cell (p:=⟨a.block,a.off+11,none⟩) hbz).trans z4;have y5:=(HBw.out.cell (p:=⟨a.block,a.off+12,none⟩) hbz).trans z5;have y6:=(HBw.out.cell (p:=⟨a.block,a.off+13,none⟩) hbz).trans z6;have kc0:=(Ai HK3.out 0).trans (show _=some (Aa Ab (k:Int))from rfl);have ec5:=(Ai HE3.out 5).trans (show _=some (Ad (some a) 2 c1)from rfl);clear z0 z1 z2 z3 z4 z5 z6 x0 x1 x2 x3 x4 x5 x6 hcx;go_wp2_with fail
      go_cut [7] (fun s7 wc=>s7= Aa Ab ty1∧Aside0 (Below w.heap.size w wc))
      case first=>
       first | (go_region_with (first | (go_at_call 39;refine hcy.mono ?_;rintro e w4 ⟨v4,rfl,rfl,b4⟩;have HB4:=Aside0.mk (HB3.out.trans (((AQ (Ao w3.heap.size w3)).trans b4).mono HB3.out.size));clear b4))) | fail
       all_goals (go_wp2_with fail;go_meet;exact⟨rfl,HB4⟩)
      case rest=>
       obtain⟨rfl,HB4⟩:=hcut
       rename World=>w4
       clear hcy y0 y1 y2 y3 y4 y5 y6 kc0 ec5;go_wp2_with fail
       refine(qh20 _ _).mono ?_;rintro e w5 ⟨rfl,rfl⟩;go_wp2_with fail
       refine(qh20 _ _).mono ?_;rintro e w6 ⟨rfl,rfl⟩;go_wp2_with fail
       refine(qv3 _ _).mono ?_;rintro e w7 ⟨rfl,rfl⟩;exact⟨rfl,HB4.out,rfl⟩
   ·rw [show((BN tx1:Except Int Int).bind fun a=>(BN ty1:Except Int Int).bind fun b=>if a=1∧b=1 then BN ()else Except.error 35)=(.error 35:Except Int Unit)from if_neg (fun h=>g1 h.1)];have d1:(tx1 == 1)=false:=by simpa using g1
    clear g1;go_enter Ck,Ch;go_wp2_with fail
    go_cut [6] (fun s6 wc=>s6= Aa Ab tx1∧Aside0 (wc.heap[w.heap.size]?=some (Af #[Aa Ab (k:Int)] 83 (0,0)))∧Aside0 (wc.heap[w.heap.size+1]?=some (Af #[Aa Ab op,Ac s,Aa Ab t,Aa Ab v,Ae b,Ad (some a) 2 c1,Ad A2 n2 c2] 28 (0,0)))∧Aside0 (Below ((w.alloc (Af #[Aa Ab (k:Int)] 83)).alloc (Af #[Aa Ab op,Ac s,Aa Ab t,Aa Ab v,Ae b,Ad (some a) 2 c1,Ad A2 n2 c2] 28)).heap.size ((w.alloc (Af #[Aa Ab (k:Int)] 83)).alloc (Af #[Aa Ab op,Ac s,Aa Ab t,Aa Ab v,Ae b,Ad (some a) 2 c1,Ad A2 n2 c2] 28)) wc))
    case first=>
     first | (go_region_with (first | (go_at_call 39;refine hcx.mono ?_;rintro e w3 ⟨v3,rfl,rfl,b3⟩;have b3w:=(AQ (Ao ((w.alloc (Af #[Aa Ab (k:Int)] 83)).alloc (Af #[Aa Ab op,Ac s,Aa Ab t,Aa Ab v,Ae b,Ad (some a) 2 c1,Ad A2 n2 c2] 28)).heap.size ((w.alloc (Af #[Aa Ab (k:Int)] 83)).alloc (Af #[Aa Ab op,Ac s,Aa Ab t,Aa Ab v,Ae b,Ad (some a) 2 c1,Ad A2 n2 c2] 28)))).trans b3;have HK3:=Aside0.mk (qn HK2.out b3w);have HE3:=Aside0.mk (qn HE2.out b3w);have HBw:=Aside0.mk b3w;clear b3 b3w))) | fail
     all_goals (go_wp2_with fail;go_meet;exact⟨rfl,HK3,HE3,HBw⟩)
    case rest=>
     obtain⟨rfl,HK3,HE3,HBw⟩:=hcut
     rename World=>w3
     have HB3:=Aside0.mk (HB2.out.trans (HBw.out.mono HB2.out.size));have hcy:=HY.out _ (AQ HBw.out);have y0:=(HBw.out.cell (p:=⟨a.block,a.off+7,none⟩) hbz).trans z0;have y1:=(HBw.out.cell (p:=⟨a.block,a.off+8,none⟩) hbz).trans z1;have y2:=(HBw.out.cell (p:=⟨a.block,a.off+9,none⟩) hbz).trans z2;have y3:=(HBw.out.cell (p:=⟨a.block,a.off+10,none⟩) hbz).trans z3;have y4:=(HBw.out.cell (p:=⟨a.block,a.off+11,none⟩) hbz).trans z4;have y5:=(HBw.out.cell (p:=⟨a.block,a.off+12,none⟩) hbz).trans z5;have y6:=(HBw.out.cell (p:=⟨a.block,a.off+13,none⟩) hbz).trans z6;have kc0:=(Ai HK3.out 0).trans (show _=some (Aa Ab (k:Int))from rfl);have ec5:=(Ai HE3.out 5).trans (show _=some (Ad (some a) 2 c1)from rfl);clear z0 z1 z2 z3 z4 z5 z6 x0 x1 x2 x3 x4 x5 x6 hcx;go_wp2_with fail
     go_cut [7] (fun s7 wc=>s7= Aa Ab ty1∧Aside0 (Below w.heap.size w wc))
     case first=>
      first | (go_region_with (first | (go_at_call 39;refine hcy.mono ?_;rintro e w4 ⟨v4,rfl,rfl,b4⟩;have HB4:=Aside0.mk (HB3.out.trans (((AQ (Ao w3.heap.size w3)).trans b4).mono HB3.out.size));clear b4))) | fail
      all_goals (go_wp2_with fail;go_meet;exact⟨rfl,HB4⟩)
     case rest=>
      obtain⟨rfl,HB4⟩:=hcut
      rename World=>w4
      clear hcy y0 y1 y2 y3 y4 y5 y6 kc0 ec5;go_wp2_with fail
      refine(qh20 _ _).mono ?_;rintro e w5 ⟨rfl,rfl⟩;go_wp2_with fail
      refine(qv3 _ _).mono ?_;rintro e w7 ⟨rfl,rfl⟩;exact⟨rfl,HB4.out,rfl⟩
end Go.Proofs.YtocdckniokhbbaaGreatDoor.Syn
