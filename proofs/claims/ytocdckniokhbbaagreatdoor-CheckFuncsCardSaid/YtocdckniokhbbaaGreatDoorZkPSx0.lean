import Derived.Test.YtocdckniokhbbaaGreatDoorZkZz
import Derived.Test.YtocdckniokhbbaaGreatDoorZkSynPp
import Derived.Test.YtocdckniokhbbaaGreatDoorZkSynS
import Derived.Test.YtocdckniokhbbaaGreatDoorZkFigD
import Derived.Test.YtocdckniokhbbaaGreatDoorZkSynR
import Derived.Test.YtocdckniokhbbaaGreatDoorZkChkD
import Derived.Test.YtocdckniokhbbaaGreatDoorZkSynPc
import Derived.Deep.DeepCutAuto
import Derived.Test.YtocdckniokhbbaaGreatDoorProg
import Derived.Below
import Derived.Deep.Draws
import Derived.Deep.AppendLies
import Derived.Maps.AppendAt
import Derived.OwnWalk
import Derived.Laws.BytesArg
import Derived.Laws.MakeOwn
import Derived.Laws.OwnMore
import Derived.Deep.OwnRows
import Derived.Tactics
import Derived.Lib.ConvBytes
import Derived.Laws.Slices
import Derived.WalkKit
import Derived.KernelRfl
import Derived.RowKit3
import Derived.Deep.LoopGhost
import Derived.Deep.QuietTactic
import Derived.BigQuiet
import Derived.WideLaws
import Derived.Deep.CutBlock
import Derived.Deep.RegionHeld3
import Derived.Laws.Rows
import Derived.Lib.AppendStr
import Derived.ArgAppend
import Derived.Laws.IdiomCopy
import Derived.OrdersHeld
import Derived.Laws.BitsLemmas
import Derived.RowKit
import Derived.Test.YtocdckniokhbbaaGreatDoorZkPFx1
import Derived.RegionTactic
import Derived.ChangeAlike
import Derived.BigRegion
import Derived.Great.BuildSlice
import Derived.Deep.WholeRow
import Derived.Test.YtocdckniokhbbaaGreatDoorZkWWords
import Derived.Test.YtocdckniokhbbaaGreatDoorZkWLast
import Derived.Laws.StructEq
import Derived.Test.YtocdckniokhbbaaGreatDoorZkWMore
set_option linter.unusedVariables false
set_option linter.unusedSimpArgs false
open Go.Value renaming string→Ac,int→Aa,slice→Ad,bool→Ae
open Go.Proofs.Tryz renaming prog→Aj,ntmps39→Bn,func39→Bs
open Go.IntKind renaming i64→Ab
open Go.Obj renaming cells→Af
open Nat renaming le_refl→Ag
open Go.RowKit.Below renaming refl→Ao,drew→AQ
open Go.Instr renaming makeFunc→Be
open Except renaming bind→Bl,ok→BN
open Go.Lib renaming cell_of_heap→Ai
open Bool renaming and_eq_true→AF
open List renaming getElem?_eq_getElem→AG,length_cons→AK,sizeOf_lt_of_mem→BR
open Option renaming some→Ay
open Go.ByteArray renaming toList_eq→Aq
set_option maxHeartbeats 8000000
set_option maxRecDepth 100000
namespace Go.Proofs.YtocdckniokhbbaaGreatDoor.Syn
open Go.RowKit Go.Shelf YtocdckniokhbbaaGreatDoorW.PrintWords YtocdckniokhbbaaGreatDoorW.PrintLast YtocdckniokhbbaaGreatDoorW.PrintMore CharB SpanA FigD FigI LexA LexF
def ParseC:Prop:=∀ (s:ByteArray) (w:World),qz5 w→s.size≤9223372036854775807→Calls Aj 12 #[Ac s] w (qq21 w (qf3 s.data.toList).1 (qf3 s.data.toList).2)
theorem RepE.inv {F:Nat→Prop} {w:World} {op:Int} {s:List UInt8} {v t:Int} {abs:Bool} {kids:List Ex} {steps:List St} {op':Int} {s':ByteArray} {d' t':Int} {b':Bool} {A1:Option Addr} {n1 c1:Nat} {A2:Option Addr} {n2 c2:Nat}
  (h:RepE F w (.mk op s v t abs kids steps) [Aa Ab op',Ac s',Aa Ab d',Aa Ab t',Ae b',Ad A1 n1 c1,Ad A2 n2 c2]) :
  op'=op∧s'=ba s∧d'=v∧t'=t∧b'=abs∧n1=kids.length∧kids.length≤c1∧(∃ xs,RepR F w kids xs∧Row F w A1 xs)∧n2=steps.length∧steps.length≤c2∧(∃ xs,RepT F w steps xs∧Row F w A2 xs):=by
 simp only [RepE]at h;obtain⟨K,S,h1,⟨A,c,xs,rfl,h2,h3,h4⟩,⟨A',c',xs',rfl,h5,h6,h7⟩⟩:=h;simp only [List.cons.injEq,Value.int.injEq,Value.string.injEq,Value.bool.injEq,Value.slice.injEq,and_true,true_and]at h1;obtain⟨rfl,rfl,rfl,rfl,rfl,⟨rfl,rfl,rfl⟩,rfl,rfl,rfl⟩:=h1;exact⟨rfl,rfl,rfl,rfl,rfl,rfl,h2,⟨xs,h3,h4⟩,rfl,h5,⟨xs',h6,h7⟩⟩
end Go.Proofs.YtocdckniokhbbaaGreatDoor.Syn
namespace Go.Proofs.YtocdckniokhbbaaGreatDoor.Syn
open Go.RowKit Go.Shelf YtocdckniokhbbaaGreatDoorW.PrintWords YtocdckniokhbbaaGreatDoorW.PrintLast YtocdckniokhbbaaGreatDoorW.PrintMore CharB SpanA FigD LexA LexF
theorem of_lit (k:Nat) (w:World) (s:ByteArray) (t v:Int) (b:Bool) (A1:Option Addr) (n1:Nat) (c1:Nat) (A2:Option Addr) (n2 c2:Nat) :
  Calls Aj 39 #[.agg #[Aa Ab (k:Int)],.agg #[Aa Ab 18,Ac s,Aa Ab t,Aa Ab v,Ae b,Ad A1 n1 c1,Ad A2 n2 c2]] w (AnsC w (fun t v=>v= Aa Ab t) (.ok 4)):=by
 have hmf:∀ (fn:Fn) (first cap:Array Value) (w:World),(Be fn first cap).run Aj w= .ok (.func fn first cap) w:=fun _ _ _ _=>rfl;have HB2:=Aside0.mk (((Ao w.heap.size w).alloc (Ag _) (Af #[Aa Ab (k:Int)] 83)).alloc (by simp) (Af #[Aa Ab 18,Ac s,Aa Ab t,Aa Ab v,Ae b,Ad A1 n1 c1,Ad A2 n2 c2] 28));go_enter Bs,Bn;go_wp2_with fail
 go_ret;exact⟨HB2.out,_,rfl,rfl⟩
theorem of_num (k:Nat) (w:World) (s:ByteArray) (t v:Int) (b:Bool) (A1:Option Addr) (n1:Nat) (c1:Nat) (A2:Option Addr) (n2 c2:Nat) :
  Calls Aj 39 #[.agg #[Aa Ab (k:Int)],.agg #[Aa Ab 19,Ac s,Aa Ab t,Aa Ab v,Ae b,Ad A1 n1 c1,Ad A2 n2 c2]] w (AnsC w (fun t v=>v= Aa Ab t) (.ok 3)):=by
 have hmf:∀ (fn:Fn) (first cap:Array Value) (w:World),(Be fn first cap).run Aj w= .ok (.func fn first cap) w:=fun _ _ _ _=>rfl;have HB2:=Aside0.mk (((Ao w.heap.size w).alloc (Ag _) (Af #[Aa Ab (k:Int)] 83)).alloc (by simp) (Af #[Aa Ab 19,Ac s,Aa Ab t,Aa Ab v,Ae b,Ad A1 n1 c1,Ad A2 n2 c2] 28));go_enter Bs,Bn;go_wp2_with fail
 go_ret;exact⟨HB2.out,_,rfl,rfl⟩
theorem of_var (k:Nat) (w:World) (s:ByteArray) (t v:Int) (b:Bool) (A1:Option Addr) (n1:Nat) (c1:Nat) (A2:Option Addr) (n2 c2:Nat) :
  Calls Aj 39 #[.agg #[Aa Ab (k:Int)],.agg #[Aa Ab 21,Ac s,Aa Ab t,Aa Ab v,Ae b,Ad A1 n1 c1,Ad A2 n2 c2]] w (AnsC w (fun t v=>v= Aa Ab t) (.error 32)):=by
 have hmf:∀ (fn:Fn) (first cap:Array Value) (w:World),(Be fn first cap).run Aj w= .ok (.func fn first cap) w:=fun _ _ _ _=>rfl;have HB2:=Aside0.mk (((Ao w.heap.size w).alloc (Ag _) (Af #[Aa Ab (k:Int)] 83)).alloc (by simp) (Af #[Aa Ab 21,Ac s,Aa Ab t,Aa Ab v,Ae b,Ad A1 n1 c1,Ad A2 n2 c2] 28));go_enter Bs,Bn;go_wp2_with fail
 refine(qv3 _ _).mono ?_;rintro e w3 ⟨rfl,rfl⟩;exact⟨rfl,HB2.out,rfl⟩
theorem qn19 (k:Nat) (w:World) (s:ByteArray) (t v:Int) (b:Bool) (A1:Option Addr) (n1:Nat) (c1:Nat) (A2:Option Addr) (n2 c2:Nat) (r:Except Int Int) (hc:∀ W,Below w.heap.size w W→Calls Aj 72 #[.agg #[Aa Ab (k:Int)],.agg #[Aa Ab 20,Ac s,Aa Ab t,Aa Ab v,Ae b,Ad A1 n1 c1,Ad A2 n2 c2]] W (AnsC W (fun t v=>v= Aa Ab t) r)) :
  Calls Aj 39 #[.agg #[Aa Ab (k:Int)],.agg #[Aa Ab 20,Ac s,Aa Ab t,Aa Ab v,Ae b,Ad A1 n1 c1,Ad A2 n2 c2]] w (AnsC w (fun t v=>v= Aa Ab t) (r)):=by
 have hmf:∀ (fn:Fn) (first cap:Array Value) (w:World),(Be fn first cap).run Aj w= .ok (.func fn first cap) w:=fun _ _ _ _=>rfl;have HB2:=Aside0.mk (((Ao w.heap.size w).alloc (Ag _) (Af #[Aa Ab (k:Int)] 83)).alloc (by simp) (Af #[Aa Ab 20,Ac s,Aa Ab t,Aa Ab v,Ae b,Ad A1 n1 c1,Ad A2 n2 c2] 28));have hcc:=hc _ HB2.out;clear hc
 cases r with
 | error n=>
  go_enter Bs,Bn;go_wp2_with fail
  refine hcc.mono ?_;rintro e w3 ⟨b3,he⟩;have he:e=qw7 n:=he;subst he;exact⟨rfl,HB2.out.trans (b3.mono HB2.out.size),rfl⟩
 | ok ty=>
  go_enter Bs,Bn;go_wp2_with fail
  refine hcc.mono ?_;rintro e w3 ⟨b3,v3,rfl,rfl⟩;have HB3:=Aside0.mk (HB2.out.trans (b3.mono HB2.out.size));clear b3 hcc;go_wp2_with fail
  go_ret;exact⟨HB3.out,_,rfl,rfl⟩
theorem of_low (k:Nat) (w:World) (op:Int) (s:ByteArray) (t v:Int) (b:Bool) (A1:Option Addr) (n1:Nat) (c1:Nat) (A2:Option Addr) (n2 c2:Nat) (h1:1≤op) (h2:op≤8) (r:Except Int Unit) (hc:∀ W,Below w.heap.size w W→Calls Aj 70 #[.agg #[Aa Ab (k:Int)],.agg #[Aa Ab op,Ac s,Aa Ab t,Aa Ab v,Ae b,Ad A1 n1 c1,Ad A2 n2 c2],.func (.func 69) #[] #[]] W (AnsC W (fun _ v=>v= .tuple #[]) r)) :
  Calls Aj 39 #[.agg #[Aa Ab (k:Int)],.agg #[Aa Ab op,Ac s,Aa Ab t,Aa Ab v,Ae b,Ad A1 n1 c1,Ad A2 n2 c2]] w (AnsC w (fun t v=>v= Aa Ab t) (r.bind fun _=> .ok 2)):=by
 have hmf:∀ (fn:Fn) (first cap:Array Value) (w:World),(Be fn first cap).run Aj w= .ok (.func fn first cap) w:=fun _ _ _ _=>rfl;have d0:decide ((1:Int)≤op)=true:=by simp;omega
 have e0:decide ((op:Int)≥1)=true:=by simp;omega
 have d1:decide ((op:Int)≤8)=true:=by simp;omega
 have e1:decide ((8:Int)≥op)=true:=by simp;omega
 have d2:decide ((9:Int)≤op)=false:=by simp;omega
 have e2:decide ((op:Int)≥9)=false:=by simp;omega
 have d3:decide ((op:Int)≤13)=true:=by simp;omega
 have e3:decide ((13:Int)≥op)=true:=by simp;omega
 clear h1 h2;have HB2:=Aside0.mk (((Ao w.heap.size w).alloc (Ag _) (Af #[Aa Ab (k:Int)] 83)).alloc (by simp) (Af #[Aa Ab op,Ac s,Aa Ab t,Aa Ab v,Ae b,Ad A1 n1 c1,Ad A2 n2 c2] 28));have hcc:=hc _ HB2.out;clear hc
 cases r with
 | error n=>
  simp only [Bl];go_enter Bs,Bn;go_wp2_with fail
  refine hcc.mono ?_;rintro e w3 ⟨b3,he⟩;have he:e=qw7 n:=he;subst he;exact⟨rfl,HB2.out.trans (b3.mono HB2.out.size),rfl⟩
 | ok u=>
  simp only [Bl];go_enter Bs,Bn;go_wp2_with fail
  refine hcc.mono ?_;rintro e w3 ⟨b3,v3,rfl,rfl⟩;have HB3:=Aside0.mk (HB2.out.trans (b3.mono HB2.out.size));clear b3 hcc;go_wp2_with fail
  go_ret;exact⟨HB3.out,_,rfl,rfl⟩
theorem of_mid (k:Nat) (w:World) (op:Int) (s:ByteArray) (t v:Int) (b:Bool) (A1:Option Addr) (n1:Nat) (c1:Nat) (A2:Option Addr) (n2 c2:Nat) (h1:9≤op) (h2:op≤13) (r:Except Int Unit) (hc:∀ W,Below w.heap.size w W→Calls Aj 70 #[.agg #[Aa Ab (k:Int)],.agg #[Aa Ab op,Ac s,Aa Ab t,Aa Ab v,Ae b,Ad A1 n1 c1,Ad A2 n2 c2],.func (.func 69) #[] #[]] W (AnsC W (fun _ v=>v= .tuple #[]) r)) :
  Calls Aj 39 #[.agg #[Aa Ab (k:Int)],.agg #[Aa Ab op,Ac s,Aa Ab t,Aa Ab v,Ae b,Ad A1 n1 c1,Ad A2 n2 c2]] w (AnsC w (fun t v=>v= Aa Ab t) (r.bind fun _=> .ok 3)):=by
 have hmf:∀ (fn:Fn) (first cap:Array Value) (w:World),(Be fn first cap).run Aj w= .ok (.func fn first cap) w:=fun _ _ _ _=>rfl;have d0:decide ((1:Int)≤op)=true:=by simp;omega
 have e0:decide ((op:Int)≥1)=true:=by simp;omega
 have d1:decide ((op:Int)≤8)=false:=by simp;omega
 have e1:decide ((8:Int)≥op)=false:=by simp;omega
 have d2:decide ((9:Int)≤op)=true:=by simp;omega
 have e2:decide ((op:Int)≥9)=true:=by simp;omega
 have d3:decide ((op:Int)≤13)=true:=by simp;omega
 have e3:decide ((13:Int)≥op)=true:=by simp;omega
 clear h1 h2;have HB2:=Aside0.mk (((Ao w.heap.size w).alloc (Ag _) (Af #[Aa Ab (k:Int)] 83)).alloc (by simp) (Af #[Aa Ab op,Ac s,Aa Ab t,Aa Ab v,Ae b,Ad A1 n1 c1,Ad A2 n2 c2] 28));have hcc:=hc _ HB2.out;clear hc
 cases r with
 | error n=>
  simp only [Bl];go_enter Bs,Bn;go_wp2_with fail
  refine hcc.mono ?_;rintro e w3 ⟨b3,he⟩;have he:e=qw7 n:=he;subst he;exact⟨rfl,HB2.out.trans (b3.mono HB2.out.size),rfl⟩
 | ok u=>
  simp only [Bl];go_enter Bs,Bn;go_wp2_with fail
  refine hcc.mono ?_;rintro e w3 ⟨b3,v3,rfl,rfl⟩;have HB3:=Aside0.mk (HB2.out.trans (b3.mono HB2.out.size));clear b3 hcc;go_wp2_with fail
  go_ret;exact⟨HB3.out,_,rfl,rfl⟩
theorem qb23 (k:Nat) (w:World) (s:ByteArray) (t v:Int) (b:Bool) (A1:Option Addr) (n1:Nat) (c1:Nat) (A2:Option Addr) (n2 c2:Nat) (r:Except Int Unit) (hc:∀ W,Below w.heap.size w W→Calls Aj 70 #[.agg #[Aa Ab (k:Int)],.agg #[Aa Ab 14,Ac s,Aa Ab t,Aa Ab v,Ae b,Ad A1 n1 c1,Ad A2 n2 c2],.func (.func 71) #[] #[]] W (AnsC W (fun _ v=>v= .tuple #[]) r)) :
  Calls Aj 39 #[.agg #[Aa Ab (k:Int)],.agg #[Aa Ab 14,Ac s,Aa Ab t,Aa Ab v,Ae b,Ad A1 n1 c1,Ad A2 n2 c2]] w (AnsC w (fun t v=>v= Aa Ab t) (r.bind fun _=> .ok 1)):=by
 have hmf:∀ (fn:Fn) (first cap:Array Value) (w:World),(Be fn first cap).run Aj w= .ok (.func fn first cap) w:=fun _ _ _ _=>rfl;have HB2:=Aside0.mk (((Ao w.heap.size w).alloc (Ag _) (Af #[Aa Ab (k:Int)] 83)).alloc (by simp) (Af #[Aa Ab 14,Ac s,Aa Ab t,Aa Ab v,Ae b,Ad A1 n1 c1,Ad A2 n2 c2] 28));have hcc:=hc _ HB2.out;clear hc
 cases r with
 | error n=>
  simp only [Bl];go_enter Bs,Bn;go_wp2_with fail
  refine hcc.mono ?_;rintro e w3 ⟨b3,he⟩;have he:e=qw7 n:=he;subst he;exact⟨rfl,HB2.out.trans (b3.mono HB2.out.size),rfl⟩
 | ok u=>
  simp only [Bl];go_enter Bs,Bn;go_wp2_with fail
  refine hcc.mono ?_;rintro e w3 ⟨b3,v3,rfl,rfl⟩;have HB3:=Aside0.mk (HB2.out.trans (b3.mono HB2.out.size));clear b3 hcc;go_wp2_with fail
  go_ret;exact⟨HB3.out,_,rfl,rfl⟩
end Go.Proofs.YtocdckniokhbbaaGreatDoor.Syn
namespace Go.Proofs.YtocdckniokhbbaaGreatDoor.Syn
open Go.RowKit Go.Shelf YtocdckniokhbbaaGreatDoorW.PrintWords YtocdckniokhbbaaGreatDoorW.PrintLast YtocdckniokhbbaaGreatDoorW.PrintMore CharB SpanA FigD LexA LexF
theorem of_neg (k:Nat) (w:World) (a:Addr) (s:ByteArray) (t v:Int) (b:Bool) (c1:Nat) (A2:Option Addr) (n2 c2:Nat) {x:Ex} (r:Except Int Int) {opx:Int} {sx:ByteArray} {tx vx:Int} {bx:Bool} {A1x:Option Addr} {n1x c1x:Nat} {A2x:Option Addr} {n2x c2x:Nat} (hba:a.block<w.heap.size) (hc:∀ W,Below w.heap.size w W→Calls Aj 39 #[.agg #[Aa Ab (k:Int)],.agg #[Aa Ab opx,Ac sx,Aa Ab tx,Aa Ab vx,Ae bx,Ad A1x n1x c1x,Ad A2x n2x c2x]] W (AnsC W (fun t v=>v= Aa Ab t) r)) (x0:w.cell? a=some (Aa Ab opx)) (x1:w.cell? ⟨a.block,a.off+1,none⟩=some (Ac sx)) (x2:w.cell? ⟨a.block,a.off+2,none⟩=some (Aa Ab tx)) (x3:w.cell? ⟨a.block,a.off+3,none⟩=some (Aa Ab vx)) (x4:w.cell? ⟨a.block,a.off+4,none⟩=some (Ae bx)) (x5:w.cell? ⟨a.block,a.off+5,none⟩=some (Ad A1x n1x c1x)) (x6:w.cell? ⟨a.block,a.off+6,none⟩=some (Ad A2x n2x c2x)) :
  Calls Aj 39 #[.agg #[Aa Ab (k:Int)],.agg #[Aa Ab 15,Ac s,Aa Ab t,Aa Ab v,Ae b,Ad (some a) 1 c1,Ad A2 n2 c2]] w (AnsC w (fun t v=>v= Aa Ab t) (r.bind fun _=> .ok 3)):=by
 have hmf:∀ (fn:Fn) (first cap:Array Value) (w:World),(Be fn first cap).run Aj w= .ok (.func fn first cap) w:=fun _ _ _ _=>rfl;have HB2:=Aside0.mk (((Ao w.heap.size w).alloc (Ag _) (Af #[Aa Ab (k:Int)] 83)).alloc (by simp) (Af #[Aa Ab 15,Ac s,Aa Ab t,Aa Ab v,Ae b,Ad (some a) 1 c1,Ad A2 n2 c2] 28));have y0:=(HB2.out.cell (p:=a) hba).trans x0;have y1:=(HB2.out.cell (p:=⟨a.block,a.off+1,none⟩) hba).trans x1;have y2:=(HB2.out.cell (p:=⟨a.block,a.off+2,none⟩) hba).trans x2;have y3:=(HB2.out.cell (p:=⟨a.block,a.off+3,none⟩) hba).trans x3;have y4:=(HB2.out.cell (p:=⟨a.block,a.off+4,none⟩) hba).trans x4;have y5:=(HB2.out.cell (p:=⟨a.block,a.off+5,none⟩) hba).trans x5;have y6:=(HB2.out.cell (p:=⟨a.block,a.off+6,none⟩) hba).trans x6;have hcc:=hc _ (AQ HB2.out);clear hc x0 x1 x2 x3 x4 x5 x6
 cases r with
 | error n=>
  have hcc:=AnsC.err hcc (Aa Ab 0);go_enter Bs,Bn;go_wp2_with fail
  first | (go_region_with (first | (go_at_call 39;refine hcc.mono ?_;rintro e w3 (⟨rfl,b3⟩ | ⟨rfl,rfl,hF⟩);exact⟨rfl,(AQ HB2.out).trans (b3.mono (AQ HB2.out).size),rfl⟩))) | (refine hcc.mono ?_;rintro e w3 (⟨rfl,b3⟩ | ⟨rfl,rfl,hF⟩);exact⟨rfl,(AQ HB2.out).trans (b3.mono (AQ HB2.out).size),rfl⟩)
  all_goals exact hF.out.elim
 | ok ty=>
  have hcc:=AnsC.okk hcc;simp only [Bl];go_enter Bs,Bn;go_wp2_with fail
  first | (go_region_with (first | (go_at_call 39;refine hcc.mono ?_;rintro e w3 ⟨v3,rfl,rfl,b3⟩;have HB3:=Aside0.mk ((AQ HB2.out).trans (b3.mono (AQ HB2.out).size));clear b3))) | fail
  all_goals
   go_wp2_with fail
   go_ret;exact⟨HB3.out,_,rfl,rfl⟩
theorem qm19 (k m:Nat) (w:World) (a:Addr) (s:ByteArray) (t v:Int) (b:Bool) (c1:Nat) (A2:Option Addr) (n2 c2:Nat) (hm:m+2≤9223372036854775807) (hcap:m+2≤c1) (r1 r2:Except Int Unit) {opx:Int} {sx:ByteArray} {tx vx:Int} {bx:Bool} {A1x:Option Addr} {n1x c1x:Nat} {A2x:Option Addr} {n2x c2x:Nat} (hba:a.block<w.heap.size) (hn:∀ W,Below w.heap.size w W→Calls Aj 73 #[.agg #[Aa Ab (k:Int)],.agg #[Aa Ab opx,Ac sx,Aa Ab tx,Aa Ab vx,Ae bx,Ad A1x n1x c1x,Ad A2x n2x c2x]] W (AnsC W (fun _ v=>v= .tuple #[]) r1)) (hp:∀ W,Below w.heap.size w W→Calls Aj 74 #[.agg #[Aa Ab (k:Int)],Ad (some ⟨a.block,a.off+7,none⟩) (m+1) (c1 - 1)] W (AnsC W (fun _ v=>v= .tuple #[]) r2)) (x0:w.cell? a=some (Aa Ab opx)) (x1:w.cell? ⟨a.block,a.off+1,none⟩=some (Ac sx)) (x2:w.cell? ⟨a.block,a.off+2,none⟩=some (Aa Ab tx)) (x3:w.cell? ⟨a.block,a.off+3,none⟩=some (Aa Ab vx)) (x4:w.cell? ⟨a.block,a.off+4,none⟩=some (Ae bx)) (x5:w.cell? ⟨a.block,a.off+5,none⟩=some (Ad A1x n1x c1x)) (x6:w.cell? ⟨a.block,a.off+6,none⟩=some (Ad A2x n2x c2x)) :
  Calls Aj 39 #[.agg #[Aa Ab (k:Int)],.agg #[Aa Ab 17,Ac s,Aa Ab t,Aa Ab v,Ae b,Ad (some a) (m+2) c1,Ad A2 n2 c2]] w (AnsC w (fun t v=>v= Aa Ab t) (r1.bind fun _=>r2.bind fun _=> .ok 1)):=by
 have hmf:∀ (fn:Fn) (first cap:Array Value) (w:World),(Be fn first cap).run Aj w= .ok (.func fn first cap) w:=fun _ _ _ _=>rfl;have HB2:=Aside0.mk (((Ao w.heap.size w).alloc (Ag _) (Af #[Aa Ab (k:Int)] 83)).alloc (by simp) (Af #[Aa Ab 17,Ac s,Aa Ab t,Aa Ab v,Ae b,Ad (some a) (m+2) c1,Ad A2 n2 c2] 28));have hE:=qr (w.alloc (Af #[Aa Ab (k:Int)] 83)) (Af #[Aa Ab 17,Ac s,Aa Ab t,Aa Ab v,Ae b,Ad (some a) (m+2) c1,Ad A2 n2 c2] 28);rw [qo]at hE;have HE2:=Aside0.mk hE;have HK2:=Aside0.mk (qb (qr w (Af #[Aa Ab (k:Int)] 83)) (Af #[Aa Ab 17,Ac s,Aa Ab t,Aa Ab v,Ae b,Ad (some a) (m+2) c1,Ad A2 n2 c2] 28));clear hE;have y0:=(HB2.out.cell (p:=a) hba).trans x0;have y1:=(HB2.out.cell (p:=⟨a.block,a.off+1,none⟩) hba).trans x1;have y2:=(HB2.out.cell (p:=⟨a.block,a.off+2,none⟩) hba).trans x2;have y3:=(HB2.out.cell (p:=⟨a.block,a.off+3,none⟩) hba).trans x3;have y4:=(HB2.out.cell (p:=⟨a.block,a.off+4,none⟩) hba).trans x4;have y5:=(HB2.out.cell (p:=⟨a.block,a.off+5,none⟩) hba).trans x5;have y6:=(HB2.out.cell (p:=⟨a.block,a.off+6,none⟩) hba).trans x6;have hcc:=hn _ (AQ HB2.out);have HP:=Aside0.mk hp;clear hn hp x0 x1 x2 x3 x4 x5 x6;have z0:(0:Int)<(m:Int)+2:=by omega
 have z1:(1:Int)≤(m:Int)+2:=by omega
 have z2:((m:Int)+2)≤(c1:Int):=by omega
 have z3:¬ c1=1:=by omega
 cases r1 with
 | error n=>
  have hcc:=AnsC.err hcc (.tuple #[]);go_enter Bs,Bn;go_wp2_with fail
  go_region_with (first | (go_at_call 73;refine hcc.mono ?_;rintro e w3 (⟨rfl,b3⟩ | ⟨rfl,rfl,hF⟩);exact⟨rfl,(AQ HB2.out).trans (b3.mono (AQ HB2.out).size),rfl⟩))
  all_goals exact hF.out.elim
 | ok u=>
  have hcc:=AnsC.okk hcc;simp only [Bl]
  cases r2 with
  | error n=>
   have HP:=Aside0.mk (show ∀ W,Below w.heap.size w W→_ from fun W hb=>AnsC.err (HP.out W hb) (.tuple #[]));go_enter Bs,Bn;go_wp2_with fail
   first | (go_region_with (first | (go_at_call 73;refine hcc.mono ?_;rintro e w3 ⟨v3,rfl,rfl,b3⟩;have b3w:=(AQ (Ao ((w.alloc (Af #[Aa Ab (k:Int)] 83)).alloc (Af #[Aa Ab 17,Ac s,Aa Ab t,Aa Ab v,Ae b,Ad (some a) (m+2) c1,Ad A2 n2 c2] 28)).heap.size ((w.alloc (Af #[Aa Ab (k:Int)] 83)).alloc (Af #[Aa Ab 17,Ac s,Aa Ab t,Aa Ab v,Ae b,Ad (some a) (m+2) c1,Ad A2 n2 c2] 28)))).trans b3;have HB3:=Aside0.mk (HB2.out.trans (b3w.mono HB2.out.size));have ec5:=(Ai (qn HE2.out b3w) 5).trans (show _=some (Ad (some a) (m+2) c1)from rfl);have kc0:=(Ai (qn HK2.out b3w) 0).trans (show _=some (Aa Ab (k:Int))from rfl);have hpp:=HP.out _ (AQ HB3.out);clear b3 b3w))) | fail
   all_goals
    go_wp2_with fail
    go_region_with (first | (go_at_call 74;refine hpp.mono ?_;rintro e w4 (⟨rfl,b4⟩ | ⟨rfl,rfl,hF⟩);exact⟨rfl,(AQ HB3.out).trans (b4.mono (AQ HB3.out).size),rfl⟩))
    all_goals exact hF.out.elim
  | ok u2=>
   have HP:=Aside0.mk (show ∀ W,Below w.heap.size w W→_ from fun W hb=>AnsC.okk (HP.out W hb));go_enter Bs,Bn;go_wp2_with fail
   first | (go_region_with (first | (go_at_call 73;refine hcc.mono ?_;rintro e w3 ⟨v3,rfl,rfl,b3⟩;have b3w:=(AQ (Ao ((w.alloc (Af #[Aa Ab (k:Int)] 83)).alloc (Af #[Aa Ab 17,Ac s,Aa Ab t,Aa Ab v,Ae b,Ad (some a) (m+2) c1,Ad A2 n2 c2] 28)).heap.size ((w.alloc (Af #[Aa Ab (k:Int)] 83)).alloc (Af #[Aa Ab 17,Ac s,Aa Ab t,Aa Ab v,Ae b,Ad (some a) (m+2) c1,Ad A2 n2 c2] 28)))).trans b3;have HB3:=Aside0.mk (HB2.out.trans (b3w.mono HB2.out.size));have ec5:=(Ai (qn HE2.out b3w) 5).trans (show _=some (Ad (some a) (m+2) c1)from rfl);have kc0:=(Ai (qn HK2.out b3w) 0).trans (show _=some (Aa Ab (k:Int))from rfl);have hpp:=HP.out _ (AQ HB3.out);clear b3 b3w))) | fail
   all_goals
    go_wp2_with fail
    first | (go_region_with (first | (go_at_call 74;refine hpp.mono ?_;rintro e w4 ⟨v4,rfl,rfl,b4⟩;have HB4:=Aside0.mk ((AQ HB3.out).trans (b4.mono (AQ HB3.out).size));clear b4))) | fail
    all_goals
     go_wp2_with fail
     go_ret;exact⟨HB4.out,_,rfl,rfl⟩
end Go.Proofs.YtocdckniokhbbaaGreatDoor.Syn
namespace Go.Proofs.YtocdckniokhbbaaGreatDoor.Syn
open Go.RowKit Go.Shelf YtocdckniokhbbaaGreatDoorW.PrintWords YtocdckniokhbbaaGreatDoorW.PrintLast YtocdckniokhbbaaGreatDoorW.PrintMore CharB SpanA FigD LexA LexF
def qc4:List Ex→Nat→Except Int Unit
 | [],_=> .ok ()
 | x :: l,k=>(qj9 x k).bind fun _=>qc4 l k
def qq11:St→List Ex
 | .mk _ _ _ _ ps=>ps
theorem RepX.inv {F:Nat→Prop} {w:World} {axis kind:Int} {name:List UInt8} {has:Bool} {ps:List Ex} {ax kx:Int} {sx:ByteArray} {bx:Bool} {A1x:Option Addr} {n1x c1x:Nat} (h:RepX F w (.mk axis kind name has ps) [Aa Ab ax,Aa Ab kx,Ac sx,Ae bx,Ad A1x n1x c1x]):n1x=ps.length∧ ∃ zs,RepR F w ps zs∧Row F w A1x zs:=by
 simp only [RepX]at h;obtain⟨K,h1,A,c,zs,rfl,_,h3,h4⟩:=h;simp only [List.cons.injEq,Value.slice.injEq,and_true]at h1;obtain⟨_,_,_,_,rfl,rfl,rfl⟩:=h1;exact⟨rfl,zs,h3,h4⟩
theorem qa15:∀ {ss:List St} {axis kind:Int} {name:List UInt8} {has:Bool} {ps:List Ex},qz2 ss=true→St.mk axis kind name has ps ∈ ss→qx9 ps=true
 | x :: ss,axis,kind,name,has,ps,h,hm=>by
  simp only [qz2,AF]at h
  rcases List.mem_cons.1 hm with rfl | hm
  ·simp only [ql18,AF]at h;exact h.1.2
  ·exact qa15 h.2 hm
theorem st_wf:∀ {ss:List St} {axis kind:Int} {name:List UInt8} {has:Bool} {ps:List Ex},wfS ss→St.mk axis kind name has ps ∈ ss→ps.length≤maxLen∧wfL ps
 | x :: ss,axis,kind,name,has,ps,h,hm=>by
  rcases List.mem_cons.1 hm with rfl | hm
  ·have h1:=h.1;simp only [wfX]at h1;exact⟨h1.2.2.2.1,h1.2.2.2.2⟩
  ·exact st_wf h.2 hm
theorem of_path (k:Nat) (w:World) (l:List Ex) (ss:List St) (s:ByteArray) (t v:Int) (b:Bool) (A1:Option Addr) (c1:Nat) (A2:Option Addr) (c2:Nat) (F:Nat→Prop) (xs ys:List Value) (hk:k≤2) (hl:∀ x ∈ l,OfC x) (hs:∀ st ∈ ss,∀ x ∈ qq11 st,OfC x) (hR:RepR F w l xs) (hW:Row F w A1 xs) (hT:RepT F w ss ys) (hV:Row F w A2 ys) (hr:qx9 l=true) (hw:wfL l) (hrs:qz2 ss=true) (hws:wfS ss) (hlen:l.length≤maxLen) (hlen2:ss.length≤maxLen) :
  Calls Aj 39 #[.agg #[Aa Ab (k:Int)],.agg #[Aa Ab 16,Ac s,Aa Ab t,Aa Ab v,Ae b,Ad A1 l.length c1,Ad A2 ss.length c2]] w (AnsC w (fun t v=>v= Aa Ab t) ((qc4 l k).bind fun _=>(qu2 ss k).bind fun _=> .ok 1)):=by
 have hmf:∀ (fn:Fn) (first cap:Array Value) (w:World),(Be fn first cap).run Aj w= .ok (.func fn first cap) w:=fun _ _ _ _=>rfl;have HB0:=Aside0.mk (((Ao w.heap.size w).alloc (Ag _) (Af #[Aa Ab (k:Int)] 83)).alloc (by simp) (Af #[Aa Ab 16,Ac s,Aa Ab t,Aa Ab v,Ae b,Ad A1 l.length c1,Ad A2 ss.length c2] 28));have hE:=qr (w.alloc (Af #[Aa Ab (k:Int)] 83)) (Af #[Aa Ab 16,Ac s,Aa Ab t,Aa Ab v,Ae b,Ad A1 l.length c1,Ad A2 ss.length c2] 28);rw [qo]at hE;have HEs:=Aside0.mk hE;have HKs:=Aside0.mk (qb (qr w (Af #[Aa Ab (k:Int)] 83)) (Af #[Aa Ab 16,Ac s,Aa Ab t,Aa Ab v,Ae b,Ad A1 l.length c1,Ad A2 ss.length c2] 28));clear hE;have HL:=Aside0.mk hl;have HS:=Aside0.mk hs;have HR:=Aside0.mk hR;have HW:=Aside0.mk hW;have HT:=Aside0.mk hT;have HV:=Aside0.mk hV;have HAll:=Aside0.mk hr;have HWf:=Aside0.mk hw;have HRs:=Aside0.mk hrs;have HWs:=Aside0.mk hws;have HLen:=Aside0.mk (show l.length≤9223372036854775807 by unfold maxLen at hlen;omega);have HLen2:=Aside0.mk (show ss.length≤9223372036854775807 by unfold maxLen at hlen2;omega);have HKk:=Aside0.mk hk;have HBs:=HB0;clear hl hs hR hW hT hV hr hw hrs hws hlen hlen2 hk HB0;obtain⟨R,hR0⟩:∃ R,(qc4 l k).bind (fun _=>(qu2 ss k).bind fun _=>(BN 1:Except Int Int))=R:=⟨_,rfl⟩;rw [hR0];have HQs:Aside0 ((qc4 (l.drop 0) k).bind (fun _=>(qu2 ss k).bind fun _=>(BN 1:Except Int Int))=R):=⟨za4⟩;clear hR0;go_enter Bs,Bn;go_wp2_with fail
 go_loopg [80] l.length (fun kq v80 w'=>∃ i:Nat,v80= Aa Ab (i:Int)∧Aside0 (kq+i=l.length)∧Aside0 (Below w.heap.size w w')∧Aside0 (w'.heap[w.heap.size]?=some (Af #[Aa Ab (k:Int)] 83 (0,0)))∧Aside0 (w'.heap[w.heap.size+1]?=some (Af #[Aa Ab 16,Ac s,Aa Ab t,Aa Ab v,Ae b,Ad A1 l.length c1,Ad A2 ss.length c2] 28 (0,0)))∧Aside0 ((qc4 (l.drop i) k).bind (fun _=>(qu2 ss k).bind fun _=>(BN 1:Except Int Int))=R))
 case atStart=>exact⟨0,rfl,⟨rfl⟩,HBs,HKs,HEs,HQs⟩
 case round=>
  obtain⟨i,rfl,HI,HBr,HKr,HEr,HQ⟩:=hrel;clear HBs HKs HEs HQs;by_cases hi:i<l.length
  ·obtain⟨x,hix⟩:∃ x,l[i]?=some x:=⟨_,AG hi⟩;obtain⟨a,opx,sx,tx,vx,bx,A1x,n1x,c1x,A2x,n2x,c2x,rfl,hFa,hba,hRx,x0,x1,x2,x3,x4,x5,x6⟩:=Row.exp (HR.out.keeps (Keeps.of_below HBr.out)) (HW.out.keeps (Keeps.of_below HBr.out)) i x hix;have hlt:decide ((i:Int)<(l.length:Int))=true:=by simp;omega
   have h0i:(0:Int)≤(i:Int):=by omega
   have hil:(i:Int)<(l.length:Int):=by omega
   have kc0:=(Ai (qb HKr.out (Af #[Aa Ab opx,Ac sx,Aa Ab tx,Aa Ab vx,Ae bx,Ad A1x n1x c1x,Ad A2x n2x c2x] 28)) 0).trans (show _=some (Aa Ab (k:Int))from rfl);have HKr2:=Aside0.mk (qb HKr.out (Af #[Aa Ab opx,Ac sx,Aa Ab tx,Aa Ab vx,Ae bx,Ad A1x n1x c1x,Ad A2x n2x c2x] 28));have HEr2:=Aside0.mk (qb HEr.out (Af #[Aa Ab opx,Ac sx,Aa Ab tx,Aa Ab vx,Ae bx,Ad A1x n1x c1x,Ad A2x n2x c2x] 28));have HB2':=Aside0.mk (HBr.out.alloc HBr.out.size (Af #[Aa Ab opx,Ac sx,Aa Ab tx,Aa Ab vx,Ae bx,Ad A1x n1x c1x,Ad A2x n2x c2x] 28));have hdrop:l.drop i=x :: l.drop (i+1):=by rw [List.drop_eq_getElem_cons hi];congr 1;exact Ay.inj ((AG hi).symm.trans hix)
   have hQ:=HQ.out;rw [hdrop]at hQ;have hmem:x ∈ l:=List.mem_of_getElem? hix;have hw1:wrap64 ((i:Int)+1)=((i+1:Nat):Int):=by have:=HLen.out;unfold wrap64;omega
   have hc:=qy10 (HL.out x hmem) k _ F opx sx tx vx bx A1x n1x c1x A2x n2x c2x HKk.out (hRx.keeps (Keeps.of_below ((Ao wr.heap.size wr).alloc (Ag _) (Af #[Aa Ab opx,Ac sx,Aa Ab tx,Aa Ab vx,Ae bx,Ad A1x n1x c1x,Ad A2x n2x c2x] 28)))) (qo5 HAll.out hmem) (qn6 HWf.out hmem);clear hdrop hmem HQ hRx;rw [qc4]at hQ
   cases hq:qj9 x k with
   | error n=>
    rw [hq]at hQ hc;simp only [Bl]at hQ;subst hQ;clear hq;go_wp2_with fail
    refine hc.mono ?_;rintro e w6 ⟨b6,he⟩;have he:e=qw7 n:=he;subst he;exact⟨rfl,HB2'.out.trans (b6.mono HB2'.out.size),rfl⟩
   | ok u1=>
    rw [hq]at hQ hc;have hQ9:(qc4 (l.drop (i+1)) k).bind (fun _=>(qu2 ss k).bind fun _=>(BN 1:Except Int Int))=R:=hQ;have HQ9:=Aside0.mk hQ9;clear hq hQ hQ9;go_wp2_with fail
    refine hc.mono ?_;rintro e w6 ⟨b6,v6,rfl,rfl⟩;have HB9:=Aside0.mk (HB2'.out.trans (b6.mono HB2'.out.size));have HK9:=Aside0.mk (qn HKr2.out b6);have HE9:=Aside0.mk (qn HEr2.out b6);clear b6 hc kc0;go_wp2_with fail
    obtain⟨g2,rfl⟩:∃ g2,gk=g2+1:=⟨gk - 1,zan⟩;go_roundg g2
    case measure=>omega
    case rel=>exact⟨i+1,congrArg (Value.int .i64) hw1,⟨zan⟩,HB9,HK9,HE9,HQ9⟩
  ·have hlt:decide ((i:Int)<(l.length:Int))=false:=by simp;omega
   have hlt2:decide (i<l.length)=false:=by simp;omega
   have hQ:=HQ.out;rw [List.drop_eq_nil_of_le (by omega),qc4]at hQ;have hQ:(qu2 ss k).bind (fun _=>(BN 1:Except Int Int))=R:=hQ;clear HQ hi;have HBt:=HBr;have HKt:=HKr;have HEt:=HEr;have HQt:Aside0 ((qu2 (ss.drop 0) k).bind (fun _=>(BN 1:Except Int Int))=R):=⟨by rw [List.drop_zero];exact hQ⟩;have ec6:=(Ai HEr.out 6).trans (show _=some (Ad A2 ss.length c2)from rfl);clear HBr HKr HEr HI hQ;go_wp2_with fail
   go_loopg [91] ss.length (fun kq v91 w'=>∃ i:Nat,v91= Aa Ab (i:Int)∧Aside0 (kq+i=ss.length)∧Aside0 (Below w.heap.size w w')∧Aside0 (w'.heap[w.heap.size]?=some (Af #[Aa Ab (k:Int)] 83 (0,0)))∧Aside0 (w'.heap[w.heap.size+1]?=some (Af #[Aa Ab 16,Ac s,Aa Ab t,Aa Ab v,Ae b,Ad A1 l.length c1,Ad A2 ss.length c2] 28 (0,0)))∧Aside0 ((qu2 (ss.drop i) k).bind (fun _=>(BN 1:Except Int Int))=R))
   case atStart=>exact⟨0,rfl,⟨rfl⟩,HBt,HKt,HEt,HQt⟩
   case round=>
    obtain⟨i,rfl,HI,HBr,HKr,HEr,HQ⟩:=hrel;clear HBt HKt HEt HQt;by_cases hi:i<ss.length
    ·obtain⟨x,hix⟩:∃ x,ss[i]?=some x:=⟨_,AG hi⟩;obtain⟨a,ax,kx,sx,bx,A1x,n1x,c1x,rfl,hFa,hba,hRx,x0,x1,x2,x3,x4⟩:=Row.st (HT.out.keeps (Keeps.of_below HBr.out)) (HV.out.keeps (Keeps.of_below HBr.out)) i x hix;have hlt:decide ((i:Int)<(ss.length:Int))=true:=by simp;omega
     have h0i:(0:Int)≤(i:Int):=by omega
     have hil:(i:Int)<(ss.length:Int):=by omega
     have kc0:=(Ai (qb HKr.out (Af #[Aa Ab ax,Aa Ab kx,Ac sx,Ae bx,Ad A1x n1x c1x] 73)) 0).trans (show _=some (Aa Ab (k:Int))from rfl);have HKr2:=Aside0.mk (qb HKr.out (Af #[Aa Ab ax,Aa Ab kx,Ac sx,Ae bx,Ad A1x n1x c1x] 73));have HEr2:=Aside0.mk (qb HEr.out (Af #[Aa Ab ax,Aa Ab kx,Ac sx,Ae bx,Ad A1x n1x c1x] 73));have HB2':=Aside0.mk (HBr.out.alloc HBr.out.size (Af #[Aa Ab ax,Aa Ab kx,Ac sx,Ae bx,Ad A1x n1x c1x] 73));have hdrop:ss.drop i=x :: ss.drop (i+1):=by rw [List.drop_eq_getElem_cons hi];congr 1;exact Ay.inj ((AG hi).symm.trans hix)
     have hQ:=HQ.out;rw [hdrop]at hQ;have hmem:x ∈ ss:=List.mem_of_getElem? hix;have hw1:wrap64 ((i:Int)+1)=((i+1:Nat):Int):=by have:=HLen2.out;unfold wrap64;omega
     obtain⟨axis,kind,name,has,ps⟩:=x;obtain⟨rfl,⟨zs,hz1,hz2⟩⟩:=hRx.inv;have hc:=qg9 ps (HS.out _ hmem) k _ F A1x c1x zs HKk.out (hz1.keeps (Keeps.of_below ((Ao wr.heap.size wr).alloc (Ag _) (Af #[Aa Ab ax,Aa Ab kx,Ac sx,Ae bx,Ad A1x ps.length c1x] 73)))) (hz2.keeps (Keeps.of_below ((Ao wr.heap.size wr).alloc (Ag _) (Af #[Aa Ab ax,Aa Ab kx,Ac sx,Ae bx,Ad A1x ps.length c1x] 73)))) (qa15 HRs.out hmem) (st_wf HWs.out hmem).2 (st_wf HWs.out hmem).1;clear hdrop hmem HQ hRx hz1 hz2;rw [qu2]at hQ
     cases hq:qz3 ps k with
     | error n=>
      rw [hq]at hQ hc;simp only [Bl]at hQ;subst hQ;clear hq;go_wp2_with fail
      refine hc.mono ?_;rintro e w6 ⟨b6,he⟩;have he:e=qw7 n:=he;subst he;exact⟨rfl,HB2'.out.trans (b6.mono HB2'.out.size),rfl⟩
     | ok u1=>
      rw [hq]at hQ hc;have hQ9:(qu2 (ss.drop (i+1)) k).bind (fun _=>(BN 1:Except Int Int))=R:=hQ;have HQ9:=Aside0.mk hQ9;clear hq hQ hQ9;go_wp2_with fail
      refine hc.mono ?_;rintro e w6 ⟨b6,v6,rfl,rfl⟩;have HB9:=Aside0.mk (HB2'.out.trans (b6.mono HB2'.out.size));have HK9:=Aside0.mk (qn HKr2.out b6);have HE9:=Aside0.mk (qn HEr2.out b6);clear b6 hc kc0;go_wp2_with fail
      obtain⟨g2,rfl⟩:∃ g2,gk=g2+1:=⟨gk - 1,zan⟩;go_roundg g2
      case measure=>omega
      case rel=>exact⟨i+1,congrArg (Value.int .i64) hw1,⟨zan⟩,HB9,HK9,HE9,HQ9⟩
    ·have hlt:decide ((i:Int)<(ss.length:Int))=false:=by simp;omega
     have hlt2:decide (i<ss.length)=false:=by simp;omega
     have hQ:=HQ.out;rw [List.drop_eq_nil_of_le (by omega),qu2]at hQ;have hQ:(BN 1:Except Int Int)=R:=hQ;subst hQ;clear HQ hi;go_wp2_with fail
     go_ret;exact⟨HBr.out,_,rfl,rfl⟩
end Go.Proofs.YtocdckniokhbbaaGreatDoor.Syn
namespace Go.Proofs.YtocdckniokhbbaaGreatDoor.Syn
open Go.RowKit Go.Shelf YtocdckniokhbbaaGreatDoorW.PrintWords YtocdckniokhbbaaGreatDoorW.PrintLast YtocdckniokhbbaaGreatDoorW.PrintMore CharB SpanA FigD LexA LexF
theorem two_of {l:List Ex} (h:l.length=2):∃ x y,l= [x,y]:=by
 match l,h with
 | [x,y],_=>exact⟨x,y,rfl⟩
theorem one_of {l:List Ex} (h:l.length=1):∃ x,l= [x]:=by
 match l,h with
 | [x],_=>exact⟨x,rfl⟩
theorem qd7 {s:List UInt8} {v t:Int} {abs:Bool} {ss:List St} {a b:Bool} (h:qr3 s v t abs ss.length a b false=true):ss= []:=by
 unfold qr3 at h;simp only [AF,Bool.false_or,beq_iff_eq]at h;exact List.eq_nil_of_length_eq_zero h.2.2
theorem qa22 {op:Int} {s:List UInt8} {v t:Int} {abs:Bool} {x y:Ex} {k:Nat} (h1:1≤op) (h2:op≤13) :
  qw1 (.mk op s v t abs [x,y] []) k=((qw1 x k).bind fun _=>(qw1 y k).bind fun _=>(.ok ():Except Int Unit)).bind fun _=> .ok (if op≤8 then 2 else 3):=by
 simp only [qw1,qy2,qu2];rw [if_neg (by omega),if_neg (by omega),if_neg (by omega)]
 cases qw1 x k with
 | error n=>rfl
 | ok a=>
  cases qw1 y k with
  | error n=>rfl
  | ok b=>
   simp only [Bl];rw [if_neg (by omega),if_neg (by omega),if_neg (show ¬ op=18 by omega)]
theorem qz21 {s:List UInt8} {v t:Int} {abs:Bool} {x y:Ex} {k:Nat} :
  qw1 (.mk 14 s v t abs [x,y] []) k=((qw1 x k).bind fun a=>(qw1 y k).bind fun b=>if a=1∧b=1 then(.ok ():Except Int Unit)else .error 35).bind fun _=> .ok 1:=by
 simp only [qw1,qy2,qu2];rw [if_neg (by omega),if_neg (by omega),if_neg (by omega)]
 cases qw1 x k with
 | error n=>rfl
 | ok a=>
  cases qw1 y k with
  | error n=>rfl
  | ok b=>
   simp only [Bl];by_cases h1:a=1
   ·by_cases h2:b=1
    ·subst h1 h2;rfl
    ·rw [if_pos ⟨by simp,by simp [h2]⟩,if_neg (fun h=>h2 h.2)]
   ·rw [if_pos ⟨by simp,by simp [h1]⟩,if_neg (fun h=>h1 h.1)]
theorem qc22 {s:List UInt8} {v t:Int} {abs:Bool} {x:Ex} {k:Nat}:qw1 (.mk 15 s v t abs [x] []) k=(qw1 x k).bind fun _=> .ok 3:=by
 simp only [qw1,qy2,qu2];rw [if_neg (by omega),if_neg (by omega),if_neg (by omega)]
 cases qw1 x k with
 | error n=>rfl
 | ok a=>
  simp only [Bl];rw [if_neg (by omega),if_neg (by omega),if_neg (by omega),if_neg (by omega)]
theorem qd22 {s:List UInt8} {v t:Int} {abs:Bool} {k:Nat}:qw1 (.mk 18 s v t abs [] []) k= .ok 4:=by
 simp only [qw1,qy2,qu2];rfl
theorem qb22 {s:List UInt8} {v t:Int} {abs:Bool} {k:Nat}:qw1 (.mk 19 s v t abs [] []) k= .ok 3:=by
 simp only [qw1,qy2,qu2];rfl
theorem qy21 {s:List UInt8} {v t:Int} {abs:Bool} {l:List Ex} {ss:List St} {k:Nat}:qw1 (.mk 21 s v t abs l ss) k= .error 32:=by
 simp only [qw1];rfl
theorem qc18 {s:List UInt8} {v t:Int} {abs:Bool} {l:List Ex} {ss:List St} {k:Nat}:qw1 (.mk 20 s v t abs l ss) k=qr24 s l k:=by
 unfold qr24;simp only [qw1];rfl
theorem qw13 {s:List UInt8} {v t:Int} {abs:Bool} {x:Ex} {l:List Ex} {ss:List St} {k:Nat}:qw1 (.mk 17 s v t abs (x :: l) ss) k=(qj9 x k).bind fun _=>(qz3 l k).bind fun _=> .ok 1:=by
 unfold qj9;simp only [qw1,qc8];rw [if_neg (by omega),if_neg (by omega),if_pos trivial]
 cases qw1 x k with
 | error n=>rfl
 | ok a=>
  simp only [Bl];by_cases h1:a=1
  ·rw [if_pos h1,if_pos h1]
  ·rw [if_neg h1,if_neg h1]
theorem qb18 {s:List UInt8} {v t:Int} {abs:Bool} {l:List Ex} {ss:List St} {k:Nat} (hl:l.length≤1):qw1 (.mk 16 s v t abs l ss) k=(qc4 l k).bind fun _=>(qu2 ss k).bind fun _=> .ok 1:=by
 simp only [qw1];rw [if_neg (by omega),if_neg (by omega),if_neg (by omega)]
 match l,hl with
 | [],_=>
  simp only [qy2,qc4,Bl,List.all_nil];rfl
 | [x],_=>
  simp only [qy2,qc4,qj9]
  cases qw1 x k with
  | error n=>rfl
  | ok a=>
   simp only [Bl];by_cases h1:a=1
   ·subst h1;rfl
   ·rw [if_pos ⟨by simp,by simp [h1]⟩,if_neg h1]
theorem of_step (op:Int) (s:List UInt8) (v t:Int) (abs:Bool) (kids:List Ex) (steps:List St) (hk:∀ x ∈ kids,OfC x) (hs:∀ st ∈ steps,∀ x ∈ qq11 st,OfC x):OfC (.mk op s v t abs kids steps):=by
 intro k w F op' s' t' v' b' A1 n1 c1 A2 n2 c2 hk2 hR hr hw;obtain⟨e1,e2,e3,e4,e5,e6,hcap,⟨xs,hK,hW⟩,e7,hcap2,⟨ys,hT,hV⟩⟩:=hR.inv;subst e1 e2 e3 e4 e5 e6 e7;simp only [qt3,AF]at hr;obtain⟨h1,hall⟩:=hr;simp only [wfE]at hw;obtain⟨_,_,_,_,wl,ws,wk,wst⟩:=hw;have kk:∀ {W:World},Below w.heap.size w W→RepR F W kids xs:=fun hb=>hK.keeps (Keeps.of_below hb);have kw:∀ {W:World},Below w.heap.size w W→Row F W A1 xs:=fun hb=>hW.keeps (Keeps.of_below hb);by_cases q1:1≤op'∧op'≤14
 ·rw [if_pos q1]at h1;simp only [AF,beq_iff_eq]at h1;obtain⟨x,y,rfl⟩:=two_of h1.1;have hst:=qd7 h1.2;subst hst;have ax:=qo5 hall (show x ∈ [x,y] by simp);have ay:=qo5 hall (show y ∈ [x,y] by simp);have bx:=qn6 wk (show x ∈ [x,y] by simp);have by_:=qn6 wk (show y ∈ [x,y] by simp);have ox:=hk x (by simp);have oy:=hk y (by simp);by_cases q14:op'=14
  ·subst q14;rw [qz21];exact qb23 k w (ba s) t' v' b' A1 2 c1 A2 0 c2 _ fun W hb=>qe14 ox oy k W F 14 (ba s) t' v' b' A1 c1 A2 0 c2 xs hk2 (kk hb) (kw hb) ax ay bx by_
  ·rw [qa22 q1.1 (by omega)];have hc:=fun W (hb:Below w.heap.size w W)=>qn18 ox oy k W F op' (ba s) t' v' b' A1 c1 A2 0 c2 xs hk2 (kk hb) (kw hb) ax ay bx by_;by_cases q8:op'≤8
   ·rw [if_pos q8];exact of_low k w op' (ba s) t' v' b' A1 2 c1 A2 0 c2 q1.1 q8 _ hc
   ·rw [if_neg q8];exact of_mid k w op' (ba s) t' v' b' A1 2 c1 A2 0 c2 (by omega) (by omega) _ hc
 rw [if_neg q1]at h1;by_cases q15:op'=15
 ·subst q15;rw [if_pos rfl]at h1;simp only [AF,beq_iff_eq]at h1;obtain⟨x,rfl⟩:=one_of h1.1;have hst:=qd7 h1.2;subst hst;rw [qc22];obtain⟨a,opx,sx,tx,vx,bx,A1x,n1x,c1x,A2x,n2x,c2x,rfl,_,hba,hRx,x0,x1,x2,x3,x4,x5,x6⟩:=Row.exp0 hK hW x rfl;exact of_neg (x:=x) k w a (ba s) t' v' b' c1 A2 0 c2 _ hba (fun W hb=>hk x (by simp) k W F opx sx tx vx bx A1x n1x c1x A2x n2x c2x hk2 (hRx.keeps (Keeps.of_below hb)) (qo5 hall (by simp)) (qn6 wk (by simp))) x0 x1 x2 x3 x4 x5 x6
 rw [if_neg q15]at h1;by_cases q16:op'=16
 ·subst q16;rw [if_pos rfl]at h1;simp only [AF]at h1
  have hl1:kids.length≤1:=by
   have:=h1.2.1;unfold qi5 at this;simp only [Bool.not_eq_true',Bool.or_eq_false_iff,decide_eq_false_iff_not]at this;omega
  rw [qb18 hl1];exact of_path k w kids steps (ba s) t' v' b' A1 c1 A2 c2 F xs ys hk2 hk hs hK hW hT hV hall wk h1.2.2 wst wl ws
 rw [if_neg q16]at h1;by_cases q17:op'=17
 ·subst q17;rw [if_pos rfl]at h1;simp only [AF,decide_eq_true_eq]at h1;clear kk kw
  match kids,hk,hK,hW,hall,wk,wl,hcap,h1 with
  | x :: y :: l,hk,hK,hW,hall,wk,wl,hcap,h1=>
   rw [qw13];obtain⟨a,opx,sx,tx,vx,bx,A1x,n1x,c1x,A2x,n2x,c2x,rfl,_,hba,hRx,x0,x1,x2,x3,x4,x5,x6⟩:=Row.exp0 hK hW x rfl;simp only [RepR]at hK;obtain⟨cs,zs,rfl,hcx,hcz⟩:=hK;have hlx:=hcx.len
   have hrest:Row F w (some ⟨a.block,a.off+7,none⟩) zs:=fun j u hu=>by
    obtain⟨a',ea,p1,p2,p3⟩:=hW (7+j) u (by rw [List.getElem?_append_right (by omega),hlx];simpa using hu)
    cases ea
    refine⟨_,rfl,p1,p2,?_⟩;rw [Addr.add_lit,show a.off+7+j=a.off+(7+j) by omega]
    rwa [show a.add (7+j)=⟨a.block,a.off+(7+j),none⟩ by unfold Addr.add;rw [if_neg (by omega)]]at p3
   have hrr:RepR F w (y :: l) zs:=by simp only [RepR];exact hcz
   exact qm19 k l.length w a (ba s) t' v' b' c1 A2 steps.length c2 (by have:=wl;simp only [AK]at this;unfold maxLen at this;omega) (by simpa using hcap) _ _ hba
    (fun W hb=>qy10 (hk x (by simp)) k W F opx sx tx vx bx A1x n1x c1x A2x n2x c2x hk2 (hRx.keeps (Keeps.of_below hb)) (qo5 hall (by simp)) (qn6 wk (by simp)))
    (fun W hb=>qg9 (y :: l) (fun z hz=>hk z (List.mem_cons_of_mem _ hz)) k W F _ (c1 - 1) zs hk2 (hrr.keeps (Keeps.of_below hb)) (hrest.keeps (Keeps.of_below hb)) (by simp only [qx9,AF]at hall ⊢;exact hall.2) wk.2 (by have:=wl;simp only [AK]at this ⊢;omega)) x0 x1 x2 x3 x4 x5 x6
  | [x],hk,hK,hW,hall,wk,wl,hcap,h1=>simp at h1
  | [],hk,hK,hW,hall,wk,wl,hcap,h1=>simp at h1
 rw [if_neg q17]at h1;by_cases q18:op'=18
 ·subst q18;rw [if_pos rfl]at h1;simp only [AF,beq_iff_eq]at h1;have hkn:=List.eq_nil_of_length_eq_zero h1.1.1;have hst:=qd7 h1.1.2;subst hkn hst;rw [qd22];exact of_lit k w (ba s) t' v' b' A1 0 c1 A2 0 c2
 rw [if_neg q18]at h1;by_cases q19:op'=19
 ·subst q19;rw [if_pos rfl]at h1;simp only [AF,beq_iff_eq]at h1;have hkn:=List.eq_nil_of_length_eq_zero h1.1.1.1.1;have hst:=qd7 h1.1.1.1.2;subst hkn hst;rw [qb22];exact of_num k w (ba s) t' v' b' A1 0 c1 A2 0 c2
 rw [if_neg q19]at h1;by_cases q21:op'=21
 ·subst q21;rw [qy21];exact of_var k w (ba s) t' v' b' A1 kids.length c1 A2 steps.length c2
 rw [if_neg q21]at h1;by_cases q20:op'=20
 ·subst q20;rw [qc18];have hb:(ba s).toList=s:=by rw [Aq];exact qe1 s
  refine qn19 k w (ba s) t' v' b' A1 kids.length c1 A2 steps.length c2 _ fun W hb2=>?_;have:=qe17 kids hk k W F 20 (ba s) t' v' b' A1 c1 A2 steps.length c2 xs hk2 (kk hb2) (kw hb2) hall wk wl
  rwa [hb]at this
 ·rw [if_neg q20]at h1
  cases h1
theorem qo19:∀ (n:Nat) (x:Ex),SizeOf.sizeOf x≤n→OfC x
 | 0,.mk op s v t abs kids steps,h=>by simp at h
 | n+1,.mk op s v t abs kids steps,h=>by
  refine of_step op s v t abs kids steps (fun x hx=>qo19 n x ?_) (fun st hst x hx=>qo19 n x ?_)
  ·have:=BR hx;simp at h;omega
  ·obtain⟨a,b,c,d,ps⟩:=st;have h1:=BR hst;have h2:=BR (show x ∈ ps from hx);simp at h h1;omega
theorem ofC_all (x:Ex):OfC x:=qo19 _ x (Ag _)
end Go.Proofs.YtocdckniokhbbaaGreatDoor.Syn
namespace Go.Proofs.YtocdckniokhbbaaGreatDoor.PS
open Go.RowKit YtocdckniokhbbaaGreatDoorW.PrintWords YtocdckniokhbbaaGreatDoorW.PrintLast YtocdckniokhbbaaGreatDoorW.PrintMore
attribute [local go_sem] qw3 qt4
structure S24 where
 f0:Int
 f1:Int
def z24:S24:=⟨(0:Int),(0:Int)⟩
def k24:Kd S24:=Kd.iso (Kd.pair (Kd.int .i64) (Kd.int .i64)) (fun x:S24=>(x.f0,x.f1))
theorem qd24 {w:World} {x:S24} {cs:List Value} (h:k24.K w x cs):cs= [Aa Ab x.f0,Aa Ab x.f1]:=by
 obtain⟨_,_,rfl,rfl,rfl⟩:=h;exact rfl
theorem k24_mk (w:World) (x:S24):k24.K w x [Aa Ab x.f0,Aa Ab x.f1]:=⟨[Aa Ab x.f0],[Aa Ab x.f1],rfl,rfl,rfl⟩
structure S93 where
 f0:Int
 f1:ByteArray
 f2:S24
def z93:S93:=⟨(0:Int),(⟨#[]⟩:ByteArray),z24⟩
def k93:Kd S93:=Kd.iso (Kd.pair (Kd.int .i64) (Kd.pair Kd.string k24)) (fun x:S93=>(x.f0,x.f1,x.f2))
theorem qc24 {w:World} {x:S93} {cs:List Value} (h:k93.K w x cs):cs= [Aa Ab x.f0,Ac x.f1,Aa Ab x.f2.f0,Aa Ab x.f2.f1]:=by
 obtain⟨_,_,rfl,rfl,⟨_,_,rfl,rfl,s2⟩⟩:=h;obtain rfl:=qd24 s2;exact rfl
theorem k93_mk (w:World) (x:S93):k93.K w x [Aa Ab x.f0,Ac x.f1,Aa Ab x.f2.f0,Aa Ab x.f2.f1]:=⟨[Aa Ab x.f0],[Ac x.f1,Aa Ab x.f2.f0,Aa Ab x.f2.f1],rfl,rfl,⟨[Ac x.f1],[Aa Ab x.f2.f0,Aa Ab x.f2.f1],rfl,rfl,(k24_mk w x.f2)⟩⟩
def rd_T93 (xs:List S93) (i:Int):S93:=xs.getD i.toNat z93
theorem at_T93 {w:World} {A:Option Addr} {n:Nat} {xs:List S93} (h:Kd.C k93 w A n xs) (i:Int) (h0:0≤i) (h1:i<n):∃ ad,A=some ad∧w.cell? (ad.add (i.toNat*4))=some (Aa Ab (rd_T93 xs i).f0)∧w.cell? ⟨(ad.add (i.toNat*4)).block,(ad.add (i.toNat*4)).off+1,none⟩=some (Ac (rd_T93 xs i).f1)∧w.cell? ⟨(ad.add (i.toNat*4)).block,(ad.add (i.toNat*4)).off+2,none⟩=some (Aa Ab (rd_T93 xs i).f2.f0)∧w.cell? ⟨(ad.add (i.toNat*4)).block,(ad.add (i.toNat*4)).off+3,none⟩=some (Aa Ab (rd_T93 xs i).f2.f1):=by
 obtain⟨ad,c,e,_,hK,hc0⟩:=Kd.C_get h z93 i h0 h1;have hc:∀ j u,c[j]?=some u→w.cell? (ad.add (i.toNat*4+j))=some u:=hc0;obtain rfl:=qc24 hK;exact⟨ad,e,hc 0 _ rfl,by rw [← qg2 _ _ 1 (by omega)];exact hc 1 _ rfl,by rw [← qg2 _ _ 2 (by omega)];exact hc 2 _ rfl,by rw [← qg2 _ _ 3 (by omega)];exact hc 3 _ rfl⟩
end Go.Proofs.YtocdckniokhbbaaGreatDoor.PS
