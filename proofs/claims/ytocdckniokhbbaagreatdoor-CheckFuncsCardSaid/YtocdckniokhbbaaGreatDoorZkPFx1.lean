import Derived.Test.YtocdckniokhbbaaGreatDoorZkZz
import Derived.Test.YtocdckniokhbbaaGreatDoorProg
import Derived.Test.YtocdckniokhbbaaGreatDoorZkWWords
import Derived.Test.YtocdckniokhbbaaGreatDoorZkWLast
import Derived.Test.YtocdckniokhbbaaGreatDoorZkWMore
import Derived.Laws.Externs
import Derived.Great.BuildSlice
import Derived.Deep.WholeRow
import Derived.Deep.QuietTactic
import Derived.Shelf.Strings.Builder1
import Derived.Shelf.Strings.Builder2
import Derived.Shelf.Strings.Trim
import Derived.Shelf.Small.Utf8
import Derived.Shelf.Small.Bits
import Derived.Shelf.Small.Strs
import Derived.Shelf.Small.Wraps
import Derived.Shelf.Strings.BuilderF
import Derived.Shelf.Strings.BuilderK
import Derived.Shelf.Strings.Builder2Cap
import Derived.Shelf.Strconv.Itoa0
import Derived.Shelf.Strings.Search1
import Derived.Shelf.Strings.Search2
import Derived.Shelf.Strings.Search3
import Derived.Shelf.Strings.Cut
import Derived.Shelf.LaysM
import Derived.Shelf.Strings.Shaped
import Derived.Shelf.GgClosure.StringsIndexFunc
import Derived.Shelf.GgClosure.StringsTrimFunc
import Derived.Shelf.GgClosure.StringsRunes
import Derived.Shelf.Strings.Prefix
import Derived.Shelf.Unicode.Decode
import Derived.Shelf.Strings.Runes
import Derived.Shelf.Strings.AsciiSet
import Derived.Shelf.Bits.Mul64
import Derived.Shelf.Strings.Repeat
import Derived.Shelf.Unicode.DecodeSlow
import Derived.Shelf.Unicode.DecodeAny
import Derived.Shelf.Strings.FuncGrows
import Derived.Shelf.Strings.BuilderCap
import Derived.Below
import Derived.Deep.Draws
import Derived.Deep.AppendLies
import Derived.Maps.AppendAt
import Derived.OwnWalk
import Derived.Laws.BytesArg
import Derived.Laws.MakeOwn
import Derived.Laws.OwnMore
import Derived.Deep.OwnRows
import Derived.Tactics
import Derived.Lib.ConvBytes
import Derived.Laws.Slices
import Derived.WalkKit
import Derived.KernelRfl
import Derived.RowKit3
import Derived.Deep.LoopGhost
import Derived.BigQuiet
import Derived.WideLaws
import Derived.Deep.DeepCutAuto
import Derived.Deep.CutBlock
import Derived.Deep.RegionHeld3
import Derived.Laws.Rows
import Derived.Lib.AppendStr
import Derived.ArgAppend
import Derived.Laws.IdiomCopy
import Derived.OrdersHeld
import Derived.Laws.BitsLemmas
import Derived.RowKit
import Derived.RegionTactic
import Derived.ChangeAlike
import Derived.BigRegion
import Derived.Laws.StructEq
set_option linter.unusedVariables false
set_option linter.unusedSimpArgs false
open Go.Value renaming slice→Ad,bool→Ae,int→Aa,string→Ac
open Go.Proofs.Tryz renaming prog→Aj,underlying3→BA,isAgg3→Ce,sizeOf3→B8,zeroValue3→BJ,isAgg4→Cd,sizeOf4→B7,zeroValue4→BI,zeroValue5→BX,isAgg9→Cc,sizeOf9→BZ,zeroValue9→BH,underlying150→BS,zeroValue150→BV
open Go.IntKind renaming i64→Ab
open Nat renaming le_refl→Ag,lt_of_lt_of_le→AW,le_of_lt→Ah
open Go.RowKit.Below renaming refl→Ao
open Option renaming some→Ay
open Go.Lib renaming indexByte→BG,decodeGo→B9
open Go.Region renaming binds→BD,Mode→BF,ready→Bi
open Array renaming getElem?_eq_some_iff→An
open Bool renaming and_eq_true→AF,or_eq_true→Br
set_option maxHeartbeats 8000000
set_option maxRecDepth 100000
namespace Go.Proofs.YtocdckniokhbbaaGreatDoor.Mine
open Go.RowKit YtocdckniokhbbaaGreatDoorW.PrintWords YtocdckniokhbbaaGreatDoorW.PrintLast YtocdckniokhbbaaGreatDoorW.PrintMore
def CallsX (P:Program) (f:FuncId) (args:Array Value) (w:World) (R:Ending→World→Prop):Prop:=
 ∃ v,(callFunc f args).run P w= .ok (.value v) w∧R (.returned v) w
theorem CallsX.mono {P:Program} {f:FuncId} {args:Array Value} {w:World} {R R':Ending→World→Prop} (h:CallsX P f args w R) (hr:∀ e w',R e w'→R' e w'):CallsX P f args w R':=
 let ⟨v,h1,h2⟩:=h;⟨v,h1,hr _ _ h2⟩
section
variable {P:Program} {ops:Array Oper} {Q:Exit→Act→World→Prop}
theorem goesX_ {rest:List Oper} {oi:Oper} {a:Act} {w:World} (N:Option Tmp) (hd:oi.dst=N) (hg:oi.guard=none) {f:FuncId} {fn:Func} {xs:Array Operand} {ts:Array TypeId} (_hf:P.funcs[f]?=some fn) (_hname:(fn.name == "runtime.NumGoroutine")=false) (_hb:fn.body.isNone=true) (args:Array Value)
  (hop:oi.op= .call {callee:= .value (.func f),args:=xs,argTypes:=ts}) (hargs:xs.map a.eval=args)
  (h:CallsX P f args w fun e w'=>∃ v,e= .returned v∧wpList P ops Q rest (a.put N v) w'):wpList P ops Q (oi :: rest) a w:=by
 refine wpList_plain hg fun K hK=>?_;obtain⟨v,he,v',hv,hk⟩:=h;obtain rfl:v=v':=Ending.returned.inj hv
 have hrun:(execOp a.eval oi).run P w= .ok (.value v) w:=by
  unfold execOp;simp [hop,resolve,Deferred.ofValue,invoke,Act.eval,hargs,he]
 unfold Oper.wp;rw [hrun,Oper.upon_value];subst hd;exact hK _ _ hk
variable {o:Oper} {rest:List Oper} {a:Act} {W:World}
theorem gate_op (op:Op) (_ho:o.op=op) (h:wpList P ops Q (o :: rest) a W):wpList P ops Q (o :: rest) a W:=h
theorem store_new (hgd:o.guard=none) (ty:TypeId) (x y:Operand) (ho:o.op= .store ty x y)
  (hd:o.dst=none) (cells:Array Value) (hx:a.eval x= .pointer (some ⟨W.heap.size,0,none⟩)) (hy:a.eval y= .agg cells)
  (t:TypeId) (old:Array Value) (hi:(P.info? ty).map (·.size)=some cells.size)
  (hold:old.size=cells.size) (h1:cells.all (·.oneCell')=true)
  (h:wpList P ops Q rest a (W.alloc (.cells cells t))):wpList P ops Q (o :: rest) a (W.alloc (.cells old t)):=by
 refine wpList_store_rowTo hgd ty x y ho hd W.heap.size cells hx hy t old (heap_alloc_new _ _) hi hold h1 ?_;rw [World.setRow_alloc_new];exact h
end
theorem blk3 (w:World) (A B C:Obj):(((w.alloc A).alloc B).alloc C).heap[w.heap.size]?=some A∧(((w.alloc A).alloc B).alloc C).heap[w.heap.size+1]?=some B∧(((w.alloc A).alloc B).alloc C).heap[w.heap.size+1+1]?=some C:=by
 refine⟨qb (qb (qr _ _) _) _,?_,?_⟩
 ·have:=qb (qr (w.alloc A) B) C;simpa using this
 ·have:=qr ((w.alloc A).alloc B) C;simpa using this
end Go.Proofs.YtocdckniokhbbaaGreatDoor.Mine
namespace Go.Proofs.YtocdckniokhbbaaGreatDoor.CharA
open Go.RowKit YtocdckniokhbbaaGreatDoorW.PrintWords YtocdckniokhbbaaGreatDoorW.PrintLast YtocdckniokhbbaaGreatDoorW.PrintMore
def char_within.f (a0:Int):List (Int × Int)→Bool
 | []=>false
 | (p,q) :: l=>if a0≥p then(if a0≤q then true else char_within.f a0 l)else char_within.f a0 l
def qf5:List (Int × Int)→List Value
 | []=>[]
 | (p,q) :: l=> .int .i32 p :: .int .i32 q :: qf5 l
theorem char_within.calls (a0:Int) (b:Nat) (L:List (Int × Int)) (hL:L.length<2 ^ 40) (r:Bool) (w:World) (hb:∀ k (hk:k<L.length),w.cell? ⟨b,k*2,none⟩=some (.int .i32 L[k].1)∧w.cell? ⟨b,k*2+1,none⟩=some (.int .i32 L[k].2))
  (hlt:b<w.heap.size) (h:char_within.f a0 L=r) :
  Calls Aj 120 #[.int .i32 a0,Ad (some ⟨b,0,none⟩) L.length L.length] w fun e w'=>e= .returned (Ae r)∧Below w.heap.size w w':=by
 have HB:=Aside0.mk hb;have HLT:=Aside0.mk hlt;have H:=Aside0.mk h;clear hb h hlt;go_enter Tryz.func120,Tryz.ntmps120;go_wp2;go_loopg [9] L.length (fun kq v9 w'=>kq≤L.length∧v9= Aa Ab ((L.length - kq:Nat):Int)∧Aside0 (char_within.f a0 (L.drop (L.length - kq))=r)∧Below w.heap.size w w')
 case atStart=>exact⟨Ag _,by simp,by simpa using H,Ao _ _⟩
 case round=>
  obtain⟨hk,rfl,HR,HBl⟩:=hrel;obtain⟨i,hi⟩:∃ i,L.length - gk=i:=⟨_,rfl⟩;rw [hi]at HR ⊢
  cases gk with
  | zero=>
   obtain rfl:L.length=i:=by omega
   have hf:decide ((L.length:Int)<(L.length:Int))=false:=by simp
   have hr:=HR.out;rw [List.drop_length]at hr;simp only [char_within.f]at hr;subst hr;go_wp2;go_ret;exact⟨rfl,HBl⟩
  | succ k1=>
   have hlt:i<L.length:=by omega
   have hd:decide ((i:Int)<(L.length:Int))=true:=by simp;omega
   have hr:=HR.out;rw [List.drop_eq_getElem_cons hlt]at hr;obtain⟨hc0,hc1⟩:=HB.out i hlt;have hd0:=(HBl.cell (p:=⟨b,i*2,none⟩) HLT.out).trans hc0;have hd1:=(HBl.cell (p:=⟨b,i*2+1,none⟩) HLT.out).trans hc1;clear hc0 hc1;generalize hx:L[i]=x at hr hd0 hd1;obtain⟨p,q⟩:=x;simp only [char_within.f]at hr;have h0:(0:Int)≤(i:Int):=by omega
   have hl1:L.length - k1=i+1:=by omega
   skip
   have fin:∀ cs,Below w.heap.size w (wr.alloc (.cells cs 152)):=fun cs=>qg HBl _;by_cases c1:a0≥p
   ·rw [if_pos c1]at hr;have c1b:decide (p≤a0)=true:=by simpa using c1
    by_cases c2:a0≤q
    ·rw [if_pos c2]at hr;have c2b:decide (a0≤q)=true:=by simpa using c2
     subst hr;go_wp2_with fail
     go_ret;exact⟨rfl,fin _⟩
    ·rw [if_neg c2]at hr;have c2b:decide (a0≤q)=false:=by simpa using c2
     have hr':=Aside0.mk hr;go_wp2_with fail
     go_roundg k1
     case measure=>omega
     case rel=>exact⟨by omega,by rw [hl1];simp,by rw [hl1];exact hr',fin _⟩
   ·rw [if_neg c1]at hr;have c1b:decide (p≤a0)=false:=by simpa using c1
    have hr':=Aside0.mk hr;go_wp2_with fail
    go_roundg k1
    case measure=>omega
    case rel=>exact⟨by omega,by rw [hl1];simp,by rw [hl1];exact hr',fin _⟩
theorem qa8:∀ (L:List (Int × Int)) (k:Nat) (hk:k<L.length),(qf5 L)[k*2]?=some (.int .i32 L[k].1)∧(qf5 L)[k*2+1]?=some (.int .i32 L[k].2)
 | (p,q) :: L,0,_=>⟨rfl,rfl⟩
 | (p,q) :: L,k+1,hk=>by
  have h:=qa8 L k (by simpa using hk);rw [Nat.add_mul];simpa [qf5]using h
theorem ql7 {w:World} {b:Nat} {t:TypeId} {L:List (Int × Int)} {cs:Array Value} (h:w.heap[b]?=some (.cells cs t (0,0))) (hL:cs=(qf5 L).toArray) :
  ∀ k (hk:k<L.length),w.cell? ⟨b,k*2,none⟩=some (.int .i32 L[k].1)∧w.cell? ⟨b,k*2+1,none⟩=some (.int .i32 L[k].2):=by
 subst hL;intro k hk;rw [qm h,qm h];simpa using qa8 L k hk
def isL:List (Int × Int):=[(9,10),(13,13),(32,55295),(57344,65533),(65536,1114111)]
def char_Is.f (a0:Int):Option Bool:=some (char_within.f a0 isL)
theorem char_Is.calls (a0:Int) (r:Bool) (w:World) (h:char_Is.f a0=some r) :
  Calls Aj 85 #[.int .i32 a0] w fun e w'=>e= .returned (Ae r)∧Below w.heap.size w w':=by
 have H:=Aside0.mk (Ay.inj h);clear h;have hr0:=Ao w.heap.size w;go_enter Tryz.func85,Tryz.ntmps85;go_wp2_with fail
 have hk:(w.alloc (.cells #[.int .i32 9,.int .i32 10,.int .i32 13,.int .i32 13,.int .i32 32,.int .i32 55295,.int .i32 57344,.int .i32 65533,.int .i32 65536,.int .i32 1114111] 153)).heap[w.heap.size]?=_:=qr w _;refine(char_within.calls a0 w.heap.size isL (by decide) r _ ?_ ?_ H.out).mono ?_
 ·exact ql7 hk rfl
 ·simp
 rintro e w1 ⟨rfl,hb1⟩;go_wp2_with fail
 go_ret;exact⟨rfl,((qg hr0 _).trans (hb1.mono (by simp)))⟩
def qy14:List (Int × Int):=[(0xc0,0xd6),(0xd8,0xf6),(0xf8,0x2ff),(0x370,0x37d),(0x37f,0x1fff),(0x200c,0x200d),(0x2070,0x218f),(0x2c00,0x2fef),(0x3001,0xd7ff),(0xf900,0xfdcf),(0xfdf0,0xfffd),(0x10000,0xeffff)]
def startC:Array Value:= #[.int .i32 192,.int .i32 214,.int .i32 216,.int .i32 246,.int .i32 248,.int .i32 767,.int .i32 880,.int .i32 893,.int .i32 895,.int .i32 8191,.int .i32 8204,.int .i32 8205,.int .i32 8304,.int .i32 8591,.int .i32 11264,.int .i32 12271,.int .i32 12289,.int .i32 55295,.int .i32 63744,.int .i32 64975,.int .i32 65008,.int .i32 65533,.int .i32 65536,.int .i32 983039]
theorem qb16:startC.all (·.oneCell')=true:=by kernel_rfl
def char_Start.f (a0:Int):Option Bool:=if a0<128 then some (decide (65≤a0) && decide (a0≤90) || decide (97≤a0) && decide (a0≤122) || a0 == 95)else some (char_within.f a0 qy14)
theorem char_Start.low (a0:Int) (r:Bool) (w:World) (c0:a0<128) (h:(decide (65≤a0) && decide (a0≤90) || decide (97≤a0) && decide (a0≤122) || a0 == 95)=r) :
  Calls Aj 114 #[.int .i32 a0] w fun e w'=>e= .returned (Ae r)∧Below w.heap.size w w':=by
 have hr0:=Ao w.heap.size w;have c0b:decide (a0<128)=true:=by simpa using c0
 subst h;go_enter Tryz.func114,Tryz.ntmps114;by_cases c1:65≤a0<;>by_cases c2:a0≤90<;>by_cases c3:97≤a0<;>by_cases c4:a0≤122<;>(try(exfalso;omega))<;>
 ·(try rw [eq_true c1]);(try rw [eq_false c1]);(try rw [eq_true c2]);(try rw [eq_false c2]);(try rw [eq_true c3]);(try rw [eq_false c3]);(try rw [eq_true c4]);(try rw [eq_false c4]);go_wp2_with fail
  go_ret;exact⟨by first | rfl | (simp;done) | (simp [c1,c2,c3,c4];done) | (simp;omega),hr0⟩
theorem char_Start.high (a0:Int) (r:Bool) (w:World) (c0:¬a0<128) (h:char_within.f a0 qy14=r) :
  Calls Aj 114 #[.int .i32 a0] w fun e w'=>e= .returned (Ae r)∧Below w.heap.size w w':=by
 have hr0:=Ao w.heap.size w;have c0b:decide (a0<128)=false:=by simpa using c0
 have H:=Aside0.mk h;clear h;go_enter Tryz.func114,Tryz.ntmps114;go_wp2_with ((with_reducible refine Mine.gate_op (.store 172 (.tmp 3) (.tmp 36)) rfl ?_);refine Mine.store_new rfl 172 (.tmp 3) (.tmp 36) rfl rfl startC rfl rfl 172 _ zm rfl qb16 ?_)
 have hk:=qr w (.cells startC 172);refine(char_within.calls a0 w.heap.size qy14 (by decide) r _ ?_ ?_ H.out).mono ?_
 ·exact ql7 hk rfl
 ·simp
 rintro e w1 ⟨rfl,hb1⟩;go_wp2_with fail
 go_ret;exact⟨rfl,((qg hr0 _).trans (hb1.mono (by simp)))⟩
theorem char_Start.calls (a0:Int) (r:Bool) (w:World) (h:char_Start.f a0=some r) :
  Calls Aj 114 #[.int .i32 a0] w fun e w'=>e= .returned (Ae r)∧Below w.heap.size w w':=by
 unfold char_Start.f at h;by_cases c0:a0<128
 ·rw [if_pos c0]at h;exact char_Start.low a0 r w c0 (Ay.inj h)
 ·rw [if_neg c0]at h;exact char_Start.high a0 r w c0 (Ay.inj h)
def isB (a:Int):Bool:=char_within.f a isL
def qp10 (a:Int):Bool:=if a<128 then(decide (65≤a) && decide (a≤90) || decide (97≤a) && decide (a≤122) || a == 95)else char_within.f a qy14
def qy22:List (Int × Int):=[(45,46),(48,57),(0xb7,0xb7),(0x300,0x36f),(0x203f,0x2040)]
def qh9 (a:Int):Bool:=qp10 a || char_within.f a qy22
theorem qe24 (a0:Int) (w:World):Calls Aj 85 #[.int .i32 a0] w fun e w'=>e= .returned (Ae (isB a0))∧Below w.heap.size w w':=char_Is.calls a0 _ w rfl
theorem qa9 (a0:Int) (w:World):Calls Aj 114 #[.int .i32 a0] w fun e w'=>e= .returned (Ae (qp10 a0))∧Below w.heap.size w w':=char_Start.calls a0 _ w (by unfold char_Start.f qp10;split<;>rfl)
theorem qp7 (a0:Int) (w:World):Calls Aj 115 #[.int .i32 a0] w fun e w'=>e= .returned (Ae (qh9 a0))∧Below w.heap.size w w':=by
 have hr0:=Ao w.heap.size w;obtain⟨s,hs⟩:∃ s,qp10 a0=s:=⟨_,rfl⟩;obtain⟨r,hr⟩:∃ r,char_within.f a0 qy22=r:=⟨_,rfl⟩;have hp:qh9 a0=(s || r):=by unfold qh9;rw [hs,hr]
 rw [hp];have S:=qa9 a0;rw [hs]at S;clear hp hs;have H:=Aside0.mk hr;clear hr
 cases s with
 | true=>
  go_enter Tryz.func115,Tryz.ntmps115;go_wp2_with fail
  refine(S _).mono ?_;rintro e w1 ⟨rfl,hb1⟩;go_wp2_with fail
  go_ret;exact⟨by simp,((qg hr0 _).trans (hb1.mono (by simp)))⟩
 | false=>
  go_enter Tryz.func115,Tryz.ntmps115;go_wp2_with fail
  refine(S _).mono ?_;rintro e w1 ⟨rfl,hb1⟩;have hk:w1.heap[w.heap.size]?=some (.cells #[.int .i32 45,.int .i32 46,.int .i32 48,.int .i32 57,.int .i32 183,.int .i32 183,.int .i32 768,.int .i32 879,.int .i32 8255,.int .i32 8256] 153):=qn (qr w _) hb1;have hB:=(qg hr0 (.cells #[.int .i32 45,.int .i32 46,.int .i32 48,.int .i32 57,.int .i32 183,.int .i32 183,.int .i32 768,.int .i32 879,.int .i32 8255,.int .i32 8256] 153)).trans (hb1.mono (by simp));have hsz:w.heap.size<w1.heap.size:=AW (by simp) hb1.size;have HB:=Aside0.mk hB;have HS:=Aside0.mk hsz;have HK:=Aside0.mk (ql7 hk (L:=qy22) rfl);clear hB hsz hk hb1;go_wp2_with fail
  refine(char_within.calls a0 w.heap.size qy22 (by decide) r _ HK.out HS.out H.out).mono ?_;rintro e w2 ⟨rfl,hb2⟩;go_wp2_with fail
  go_ret;exact⟨by simp,HB.out.trans (hb2.mono (Ah HS.out))⟩
end Go.Proofs.YtocdckniokhbbaaGreatDoor.CharA
/-
 DERIVED: THE SHELF's CONTRACTS AT THIS DUMP, IN PLAIN WORDS (tools/lay-plain.mjs out of 'TryzShelf.lean', which tools/lay-shelf.mjs wrote): THE SAME DECLARATIONS UNDER THE SAME NAMES: 'import', 'namespace', 'open', 'def', 'theorem' AND NOTHING ELSE: no command of the shelf's: FOR A HAND-IN. Each laying: the table of numbers ('.._ren') and one theorem, a field a fact of the dump's own or the kernel's comparison; each contract: ONE APPLICATION.
-/
namespace Go.Proofs
open Go.Shelf
def Tryz.lays161_ren:Go.Shelf.Ren:=⟨fun | 161=>126 | 231=>155 | 227=>156 | 233=>157 | 235=>158 | 228=>188 | 197=>130 | 151=>189 | 260=>172 | 152=>203 | 137=>213 | 119=>214 | 224=>182 | 225=>181 | 217=>180 | 266=>199 | n=>n,fun | 9=>9 | 4=>4 | 3=>3 | 5=>5 | 117=>193 | 116=>192 | 0=>0 | 124=>196 | 105=>163 | 21=>21 | 119=>146 | 46=>150 | 139=>149 | 138=>148 | n=>n,fun | 3=>0 | 4=>1 | n=>n⟩
theorem Tryz.lays161:Go.Proofs.Lays.n161 Aj Tryz.lays161_ren:={
 mixed:=by kernel_rfl
 f119:=Tryz.func214.trans (congrArg some zm)
 f137:=Tryz.func213.trans (congrArg some zm)
 f151:=Tryz.func189.trans (congrArg some zm)
 f152:=Tryz.func203.trans (congrArg some zm)
 f161:=Tryz.func126.trans (congrArg some zm)
 f197:=Tryz.func130.trans (congrArg some zm)
 f217:=Tryz.func180.trans (congrArg some zm)
 f224:=Tryz.func182.trans (congrArg some zm)
 f225:=Tryz.func181.trans (congrArg some zm)
 f227:=Tryz.func156.trans (congrArg some zm)
 f228:=Tryz.func188.trans (congrArg some zm)
 f231:=Tryz.func155.trans (congrArg some zm)
 f233:=Tryz.func157.trans (congrArg some zm)
 f235:=Tryz.func158.trans (congrArg some zm)
 f260:=Tryz.func172.trans (congrArg some zm)
 f266:=Tryz.func199.trans (congrArg some zm)
 t0:=Tryz.underlying0
 a0:=Tryz.isAgg0
 z0:=Tryz.sizeOf0
 v0:=Tryz.zeroValue0
 t3:=BA
 a3:=Ce
 z3:=B8
 v3:=BJ
 t4:=Tryz.underlying4
 a4:=Cd
 z4:=B7
 v4:=BI
 t5:=Tryz.underlying5
 a5:=Tryz.isAgg5
 z5:=Tryz.sizeOf5
 v5:=BX
 t9:=Tryz.underlying9
 a9:=Cc
 z9:=BZ
 v9:=BH
 t21:=Tryz.underlying21
 a21:=Tryz.isAgg21
 z21:=Tryz.sizeOf21
 v21:=Tryz.zeroValue21
 t46:=BS
 a46:=Tryz.isAgg150
 z46:=Tryz.sizeOf150
 v46:=BV
 t105:=Tryz.underlying163
 a105:=Tryz.isAgg163
 z105:=Tryz.sizeOf163
 v105:=Tryz.zeroValue163
 t116:=Tryz.underlying192
 a116:=Tryz.isAgg192
 z116:=Tryz.sizeOf192
 t117:=Tryz.underlying193
 a117:=Tryz.isAgg193
 z117:=Tryz.sizeOf193
 v117:=Tryz.zeroValue193
 t119:=Tryz.underlying146
 a119:=Tryz.isAgg146
 z119:=Tryz.sizeOf146
 t124:=Tryz.underlying196
 a124:=Tryz.isAgg196
 z124:=Tryz.sizeOf196
 v124:=Tryz.zeroValue196
 t138:=Tryz.underlying148
 a138:=Tryz.isAgg148
 z138:=Tryz.sizeOf148
 v138:=Tryz.zeroValue148
 t139:=Tryz.underlying149
 a139:=Tryz.isAgg149
 z139:=Tryz.sizeOf149
 v139:=Tryz.zeroValue149
 g3:=by kernel_rfl
 g4:=zm}
open Go.RowKit in
theorem Tryz.strings_TrimLeft_one (s:ByteArray) (c:UInt8) (hc:c.toNat<128) (w:World) :
  Calls Aj 126 #[Ac s,Ac ⟨#[c]⟩] w fun e w'=>e= .returned (Ac ⟨(Lib.trimLeftB s.data.toList c).toArray⟩)∧w'=w:=Any.strings_TrimLeft_one Tryz.lays161 s c hc w
def Tryz.lays134_ren:Go.Shelf.Ren:=⟨fun | 134=>190 | 129=>204 | n=>n,fun | 53=>173 | 3=>3 | 4=>4 | 46=>150 | 5=>5 | 9=>9 | n=>n,fun | n=>n⟩
theorem Tryz.lays134:Go.Proofs.Lays.n134 Aj Tryz.lays134_ren:={
 mixed:=by kernel_rfl
 f129:=Tryz.func204.trans (congrArg some zm)
 f134:=Tryz.func190.trans (congrArg some zm)
 t3:=BA
 a3:=Ce
 z3:=B8
 v3:=BJ
 t4:=Tryz.underlying4
 a4:=Cd
 z4:=B7
 v4:=BI
 t5:=Tryz.underlying5
 a5:=Tryz.isAgg5
 z5:=Tryz.sizeOf5
 v5:=BX
 t9:=Tryz.underlying9
 a9:=Cc
 z9:=BZ
 v9:=BH
 t46:=BS
 a46:=Tryz.isAgg150
 z46:=Tryz.sizeOf150
 v46:=BV
 t53:=Tryz.underlying173
 a53:=Tryz.isAgg173
 z53:=Tryz.sizeOf173
 v53:=Tryz.zeroValue173}
theorem Tryz.bits_LeadingZeros64 (x:Int) (w:World) (h0:0≤x) (h1:x≤18446744073709551615) :
  Calls Aj 190 #[.int .u64 x] w fun e w'=>e= .returned (Aa Ab (64 - (Lib.bitLen x.toNat:Int)))∧w'=w:=Any.bits_LeadingZeros64 Tryz.lays134 x w h0 h1
def Tryz.lays103_ren:Go.Shelf.Ren:=⟨fun | 103=>91 | 210=>129 | 206=>171 | n=>n,fun | 9=>9 | 4=>4 | 24=>123 | 3=>3 | n=>n,fun | n=>n⟩
theorem Tryz.lays103:Go.Proofs.Lays.n103 Aj Tryz.lays103_ren:={
 mixed:=by kernel_rfl
 f103:=Tryz.func91.trans (congrArg some zm)
 f206:=Tryz.func171.trans (congrArg some zm)
 f210:=Tryz.func129.trans (congrArg some zm)
 t3:=BA
 a3:=Ce
 z3:=B8
 v3:=BJ
 t4:=Tryz.underlying4
 a4:=Cd
 z4:=B7
 v4:=BI
 t9:=Tryz.underlying9
 a9:=Cc
 z9:=BZ
 v9:=BH
 t24:=Tryz.underlying123
 a24:=Tryz.isAgg123
 z24:=Tryz.sizeOf123
 v24:=Tryz.zeroValue123}
open Go.RowKit in
theorem Tryz.strings_CutPrefix (s p:ByteArray) (w:World) :
  Calls Aj 91 #[Ac s,Ac p] w fun e w'=>e= .returned (.tuple #[Ac ⟨(Lib.trimPrefix s.data.toList p.data.toList).toArray⟩,Ae (Lib.hasPrefix s.data.toList p.data.toList)])∧w'=w:=Any.strings_CutPrefix Tryz.lays103 s p w
def Tryz.lays219_ren:Go.Shelf.Ren:=⟨fun | 219=>143 | 217=>180 | 225=>181 | 224=>182 | 267=>183 | 266=>199 | 314=>200 | n=>n,fun | 9=>9 | 3=>3 | 4=>4 | 5=>5 | 46=>150 | 146=>216 | 51=>215 | n=>n,fun | 1=>2 | n=>n⟩
theorem Tryz.lays219:Go.Proofs.Lays.n219 Aj Tryz.lays219_ren:={
 mixed:=by kernel_rfl
 f217:=Tryz.func180.trans (congrArg some zm)
 f219:=Tryz.func143.trans (congrArg some zm)
 f224:=Tryz.func182.trans (congrArg some zm)
 f225:=Tryz.func181.trans (congrArg some zm)
 f266:=Tryz.func199.trans (congrArg some zm)
 f267:=Tryz.func183.trans (congrArg some zm)
 f314:=Tryz.func200.trans (congrArg some zm)
 t3:=BA
 a3:=Ce
 z3:=B8
 v3:=BJ
 t4:=Tryz.underlying4
 a4:=Cd
 z4:=B7
 v4:=BI
 t5:=Tryz.underlying5
 a5:=Tryz.isAgg5
 z5:=Tryz.sizeOf5
 v5:=BX
 t9:=Tryz.underlying9
 a9:=Cc
 z9:=BZ
 v9:=BH
 t46:=BS
 a46:=Tryz.isAgg150
 z46:=Tryz.sizeOf150
 v46:=BV
 t51:=Tryz.underlying215
 a51:=Tryz.isAgg215
 z51:=Tryz.sizeOf215
 v51:=Tryz.zeroValue215
 t146:=Tryz.underlying216
 a146:=Tryz.isAgg216
 z146:=Tryz.sizeOf216
 v146:=Tryz.zeroValue216
 g1:=zm}
open Go.RowKit Go.Lib in
theorem Tryz.stringslite_Index_one (s:ByteArray) (c:UInt8) (w:World) :
  Calls Aj 143 #[Ac s,Ac ⟨#[c]⟩] w fun e w'=>e= .returned (Aa Ab (BG s.data.toList c))∧w'=w:=Any.stringslite_Index_one Tryz.lays219 s c w
def Tryz.lays144_ren:Go.Shelf.Ren:=⟨fun | 144=>113 | 143=>142 | 219=>143 | 217=>180 | 225=>181 | 224=>182 | 267=>183 | 266=>199 | 314=>200 | n=>n,fun | 9=>9 | 4=>4 | 3=>3 | 5=>5 | 46=>150 | 146=>216 | 51=>215 | n=>n,fun | 1=>2 | n=>n⟩
theorem Tryz.lays144:Go.Proofs.Lays.n144 Aj Tryz.lays144_ren:={
 mixed:=by kernel_rfl
 f143:=Tryz.func142.trans (congrArg some zm)
 f144:=Tryz.func113.trans (congrArg some zm)
 f217:=Tryz.func180.trans (congrArg some zm)
 f219:=Tryz.func143.trans (congrArg some zm)
 f224:=Tryz.func182.trans (congrArg some zm)
 f225:=Tryz.func181.trans (congrArg some zm)
 f266:=Tryz.func199.trans (congrArg some zm)
 f267:=Tryz.func183.trans (congrArg some zm)
 f314:=Tryz.func200.trans (congrArg some zm)
 t3:=BA
 a3:=Ce
 z3:=B8
 v3:=BJ
 t4:=Tryz.underlying4
 a4:=Cd
 z4:=B7
 v4:=BI
 t5:=Tryz.underlying5
 a5:=Tryz.isAgg5
 z5:=Tryz.sizeOf5
 v5:=BX
 t9:=Tryz.underlying9
 a9:=Cc
 z9:=BZ
 v9:=BH
 t46:=BS
 a46:=Tryz.isAgg150
 z46:=Tryz.sizeOf150
 v46:=BV
 t51:=Tryz.underlying215
 a51:=Tryz.isAgg215
 z51:=Tryz.sizeOf215
 v51:=Tryz.zeroValue215
 t146:=Tryz.underlying216
 a146:=Tryz.isAgg216
 z146:=Tryz.sizeOf216
 v146:=Tryz.zeroValue216
 g1:=zm}
open Go.RowKit Go.Lib in
theorem Tryz.strings_Contains_one (s:ByteArray) (c:UInt8) (w:World) :
  Calls Aj 113 #[Ac s,Ac ⟨#[c]⟩] w fun e w'=>e= .returned (Ae (decide (0≤BG s.data.toList c)))∧w'=w:=Any.strings_Contains_one Tryz.lays144 s c w
def Tryz.lays272_ren:Go.Shelf.Ren:=⟨fun | 272=>43 | 315=>86 | n=>n,fun | 9=>9 | 40=>88 | 4=>4 | 3=>3 | 0=>0 | 21=>21 | n=>n,fun | n=>n⟩
theorem Tryz.lays272:Go.Proofs.Lays.n272 Aj Tryz.lays272_ren:={
 mixed:=by kernel_rfl
 f272:=Tryz.func43.trans (congrArg some zm)
 f315:=Tryz.func86.trans (congrArg some zm)
 t0:=Tryz.underlying0
 a0:=Tryz.isAgg0
 z0:=Tryz.sizeOf0
 v0:=Tryz.zeroValue0
 t3:=BA
 a3:=Ce
 z3:=B8
 v3:=BJ
 t4:=Tryz.underlying4
 a4:=Cd
 z4:=B7
 v4:=BI
 t9:=Tryz.underlying9
 a9:=Cc
 z9:=BZ
 v9:=BH
 t21:=Tryz.underlying21
 a21:=Tryz.isAgg21
 z21:=Tryz.sizeOf21
 v21:=Tryz.zeroValue21
 t40:=Tryz.underlying88
 a40:=Tryz.isAgg88
 z40:=Tryz.sizeOf88
 v40:=Tryz.zeroValue88}
open Go.RowKit Go.Lib in
theorem Tryz.strings_TrimLeftFunc_runes (g:Nat) (lb:Array Value) (eg:∀ args w,(callFunc g args).run Aj w= .ok (.enter g args) w) (p:Nat→Bool) (s:ByteArray) (w:World) (hp:PredAtRunes Aj g lb p w) :
  Calls Aj 43 #[Ac s,.func (.func g) #[] lb] w fun e w'=>e= .returned (Ac (Lib.trimLeftF p s))∧Below w.heap.size w w':=Any.strings_TrimLeftFunc_runes Tryz.lays272 g lb eg p s w hp
def Tryz.lays99_ren:Go.Shelf.Ren:=⟨fun | 99=>131 | 206=>171 | n=>n,fun | 9=>9 | 4=>4 | 3=>3 | n=>n,fun | n=>n⟩
theorem Tryz.lays99:Go.Proofs.Lays.n99 Aj Tryz.lays99_ren:={
 mixed:=by kernel_rfl
 f99:=Tryz.func131.trans (congrArg some zm)
 f206:=Tryz.func171.trans (congrArg some zm)
 t3:=BA
 a3:=Ce
 z3:=B8
 v3:=BJ
 t4:=Tryz.underlying4
 a4:=Cd
 z4:=B7
 v4:=BI
 t9:=Tryz.underlying9
 a9:=Cc
 z9:=BZ
 v9:=BH}
open Go.RowKit Go.Lib in
theorem Tryz.strings_HasPrefix (s p:ByteArray) (w:World) :
  Calls Aj 131 #[Ac s,Ac p] w fun e w'=>e= .returned (Ae (Lib.hasPrefix s.data.toList p.data.toList))∧w'=w:=Any.strings_HasPrefix Tryz.lays99 s p w
def Tryz.lays105_ren:Go.Shelf.Ren:=⟨fun | 105=>124 | 212=>148 | 99=>131 | 165=>149 | 166=>150 | 170=>151 | 169=>152 | 263=>185 | 264=>167 | 206=>171 | 240=>186 | 241=>187 | 276=>201 | 277=>202 | n=>n,fun | 9=>9 | 3=>3 | 4=>4 | 20=>20 | 0=>0 | 46=>150 | 109=>176 | 5=>5 | 72=>180 | 76=>184 | 51=>215 | 146=>216 | 53=>173 | 148=>199 | 70=>178 | 37=>160 | 75=>183 | 127=>218 | 164=>232 | 80=>187 | n=>n,fun | n=>n⟩
theorem Tryz.lays105:Go.Proofs.Lays.n105 Aj Tryz.lays105_ren:={
 mixed:=by kernel_rfl
 f99:=Tryz.func131.trans (congrArg some zm)
 f105:=Tryz.func124.trans (congrArg some zm)
 f165:=Tryz.func149.trans (congrArg some zm)
 f166:=Tryz.func150.trans (congrArg some zm)
 f169:=Tryz.func152.trans (congrArg some zm)
 f170:=Tryz.func151.trans (congrArg some zm)
 f206:=Tryz.func171.trans (congrArg some zm)
 f212:=Tryz.func148.trans (congrArg some zm)
 f240:=Tryz.func186.trans (congrArg some zm)
 f241:=Tryz.func187.trans (congrArg some zm)
 f263:=Tryz.func185.trans (congrArg some zm)
 f264:=Tryz.func167.trans (congrArg some zm)
 f276:=Tryz.func201.trans (congrArg some zm)
 f277:=Tryz.func202.trans (congrArg some zm)
 t0:=Tryz.underlying0
 a0:=Tryz.isAgg0
 z0:=Tryz.sizeOf0
 v0:=Tryz.zeroValue0
 t3:=BA
 a3:=Ce
 z3:=B8
 v3:=BJ
 t4:=Tryz.underlying4
 a4:=Cd
 z4:=B7
 v4:=BI
 t5:=Tryz.underlying5
 a5:=Tryz.isAgg5
 z5:=Tryz.sizeOf5
 v5:=BX
 t9:=Tryz.underlying9
 a9:=Cc
 z9:=BZ
 v9:=BH
 t20:=Tryz.underlying20
 a20:=Tryz.isAgg20
 z20:=Tryz.sizeOf20
 v20:=Tryz.zeroValue20
 t37:=Tryz.underlying160
 a37:=Tryz.isAgg160
 z37:=Tryz.sizeOf160
 v37:=Tryz.zeroValue160
 t46:=BS
 a46:=Tryz.isAgg150
 z46:=Tryz.sizeOf150
 v46:=BV
 t51:=Tryz.underlying215
 a51:=Tryz.isAgg215
 z51:=Tryz.sizeOf215
 v51:=Tryz.zeroValue215
 t53:=Tryz.underlying173
 a53:=Tryz.isAgg173
 z53:=Tryz.sizeOf173
 v53:=Tryz.zeroValue173
 t70:=Tryz.underlying178
 a70:=Tryz.isAgg178
 z70:=Tryz.sizeOf178
 v70:=Tryz.zeroValue178
 t72:=Tryz.underlying180
 a72:=Tryz.isAgg180
 z72:=Tryz.sizeOf180
 v72:=Tryz.zeroValue180
 t75:=Tryz.underlying183
 a75:=Tryz.isAgg183
 z75:=Tryz.sizeOf183
 v75:=Tryz.zeroValue183
 t76:=Tryz.underlying184
 a76:=Tryz.isAgg184
 z76:=Tryz.sizeOf184
 v76:=Tryz.zeroValue184
 t109:=Tryz.underlying176
 a109:=Tryz.isAgg176
 z109:=Tryz.sizeOf176
 v109:=Tryz.zeroValue176
 t127:=Tryz.underlying218
 a127:=Tryz.isAgg218
 z127:=Tryz.sizeOf218
 v127:=Tryz.zeroValue218
 t146:=Tryz.underlying216
 a146:=Tryz.isAgg216
 z146:=Tryz.sizeOf216
 v146:=Tryz.zeroValue216
 t148:=Tryz.underlying199
 a148:=Tryz.isAgg199
 z148:=Tryz.sizeOf199
 v148:=Tryz.zeroValue199
 t164:=Tryz.underlying232
 a164:=Tryz.isAgg232
 z164:=Tryz.sizeOf232
 v164:=Tryz.zeroValue232}
theorem Tryz.Builder_Extra_105:Builder.Extra Aj Tryz.lays105_ren:={
 sizeBuilder:=by kernel_rfl
 liesBuilder:=by kernel_rfl
 t5:=Tryz.underlying5
 a5:=Tryz.isAgg5
 z5:=Tryz.sizeOf5
 v5:=BX
 infoByte:=by kernel_rfl
 cellsByte:=by kernel_rfl
 sizeByte:=by kernel_rfl
 neB5:=by decide}
open Go.RowKit Go.Lib in
theorem Tryz.strings_Repeat (s:ByteArray) (c:Nat) (w:World) (hc:c≤9223372036854775807) (hlen:s.size*c≤140737488355328) :
  Calls Aj 124 #[Ac s,Aa Ab c] w fun e w'=>e= .returned (Ac ⟨(Lib.repeatL s.data.toList c).toArray⟩)∧Below w.heap.size w w':=Any.strings_Repeat Tryz.lays105 Tryz.Builder_Extra_105 s c w hc hlen
def Tryz.lays260_ren:Go.Shelf.Ren:=⟨fun | 260=>172 | n=>n,fun | 9=>9 | 21=>21 | 3=>3 | 4=>4 | 5=>5 | 119=>146 | 0=>0 | 46=>150 | 139=>149 | 138=>148 | n=>n,fun | 3=>0 | 4=>1 | n=>n⟩
theorem Tryz.lays260:Go.Proofs.Lays.n260 Aj Tryz.lays260_ren:={
 mixed:=by kernel_rfl
 f260:=Tryz.func172.trans (congrArg some zm)
 t0:=Tryz.underlying0
 a0:=Tryz.isAgg0
 z0:=Tryz.sizeOf0
 v0:=Tryz.zeroValue0
 t3:=BA
 a3:=Ce
 z3:=B8
 v3:=BJ
 t4:=Tryz.underlying4
 a4:=Cd
 z4:=B7
 v4:=BI
 t5:=Tryz.underlying5
 a5:=Tryz.isAgg5
 z5:=Tryz.sizeOf5
 v5:=BX
 t9:=Tryz.underlying9
 a9:=Cc
 z9:=BZ
 v9:=BH
 t21:=Tryz.underlying21
 a21:=Tryz.isAgg21
 z21:=Tryz.sizeOf21
 v21:=Tryz.zeroValue21
 t46:=BS
 a46:=Tryz.isAgg150
 z46:=Tryz.sizeOf150
 v46:=BV
 t119:=Tryz.underlying146
 a119:=Tryz.isAgg146
 z119:=Tryz.sizeOf146
 t138:=Tryz.underlying148
 a138:=Tryz.isAgg148
 z138:=Tryz.sizeOf148
 v138:=Tryz.zeroValue148
 t139:=Tryz.underlying149
 a139:=Tryz.isAgg149
 z139:=Tryz.sizeOf149
 v139:=Tryz.zeroValue149
 g3:=by kernel_rfl
 g4:=zm}
open Go.RowKit Go.Lib in
theorem Tryz.utf8_decodeRuneInStringSlow (s:ByteArray) (w:World) (hT:Lib.Utf8Tabs 0 1 w) :
  Calls Aj 172 #[Ac s] w fun e w'=>e= .returned (.tuple #[.int .i32 (B9 s).1,Aa Ab (B9 s).2])∧Below w.heap.size w w':=Any.utf8_decodeRuneInStringSlow Tryz.lays260 s w hT
end Go.Proofs
namespace Go.Proofs.YtocdckniokhbbaaGreatDoorW.PrintLast
open Go.Proofs.YtocdckniokhbbaaGreatDoorW.PrintWords (Aside0)
def qr7 (md:BF) (o:Oper):List Nat:=(o.after.toList.filter (fun e=>BD md e)).map (fun e=>e.on)
def qu14 (md:BF) (ops:Array Oper) (i:Nat) (oi:Oper):List Nat:=(List.range ops.size).filter fun j=> !(j == i) && match ops[j]? with
 | some oj=> !(oj.after.any (fun e=>BD md e && e.on == i) || oi.apart ops oj)
 | none=>false
def qe10 (md:BF) (ops:Array Oper):Bool × List (List Nat × List Nat):=(Region.noSelect ops,(List.range ops.size).map fun i=>match ops[i]? with
 | some o=>(qr7 md o,qu14 md ops i o)
 | none=>([],[]))
def qg5 (T:List (List Nat × List Nat)) (l:List Bool) (i:Nat):Bool:= !l.getD i true && match T[i]? with
 | some r=>r.1.all (fun j=>l.getD j false)
 | none=>false
def qx12 (T:List (List Nat × List Nat)) (l:List Bool):List Nat:=(List.range T.length).filter (qg5 T l)
def qo20 (T:List (List Nat × List Nat)) (l:List Bool) (i:Nat):Bool:=match T[i]? with
 | some r=>r.2.all (fun j=>l.getD j true)
 | none=>false
def qb12 (T:List (List Nat × List Nat)) (l:List Bool):Bool:=(List.range T.length).all fun j=> !l.getD j false || match T[j]? with
 | some r=>r.1.all (fun k=>l.getD k false)
 | none=>true
def qs10 (T:List (List Nat × List Nat)) (i:Nat):Nat→Nat→Bool
 | 0,_=>false
 | fuel+1,d=>match T[d]? with
  | some r=>r.1.any fun j=>j == i || qs10 T i fuel j
  | none=>false
def qb24 (T:List (List Nat × List Nat)) (l:List Bool) (ds:List Nat) (i:Nat):Bool:=ds.all fun d=>l.getD d true || qs10 T i T.length d
section
variable {md:BF} {ops:Array Oper} {T:Bool × List (List Nat × List Nat)} {l l' li lj lk:Array Bool} {ds:List Nat} {i j k:Nat}
theorem gd (l:Array Bool) (j:Nat) (b:Bool):l.getD j b=l.toList.getD j b:=by simp [Array.getD_eq_getD_getElem?,List.getD_eq_getElem?_getD]
theorem qd13 (o:Oper) (p:Nat→Bool):o.after.all (fun e=> !Region.binds md e || p e.on)=(qr7 md o).all p:=by
 unfold qr7;rw [← Array.all_toList]
 induction o.after.toList with
 | nil=>rfl
 | cons e r ih=>
  rw [List.all_cons,ih,List.filter_cons]
  cases h:BD md e<;>simp
theorem qu19 (o:Oper) (p:Nat→Bool):o.after.any (fun e=>BD md e && p e.on)=(qr7 md o).any p:=by
 unfold qr7;rw [← Array.any_toList]
 induction o.after.toList with
 | nil=>rfl
 | cons e r ih=>
  rw [List.any_cons,ih,List.filter_cons]
  cases h:BD md e<;>simp
theorem qp4:(qe10 md ops).2.length=ops.size:=by simp [qe10]
theorem qt6 {o:Oper} (h:ops[i]?=some o):(qe10 md ops).2[i]?=some (qr7 md o,qu14 md ops i o):=by
 have hi:=(An.1 h).1;unfold qe10;rw [List.getElem?_map,List.getElem?_range hi,Option.map_some,h]
theorem qu6 (h:ops[i]?=none):(qe10 md ops).2[i]?=none:=by
 have hi:ops.size≤i:=Array.getElem?_eq_none_iff.1 h;exact List.getElem?_eq_none (by rw [qp4];exact hi)
theorem qf16:qg5 (qe10 md ops).2 l.toList i=(!l.getD i true && ((ops[i]?).map (·.after.all fun e=> !Region.binds md e || l.getD e.on false)).getD false):=by
 unfold qg5;rw [gd]
 cases h:ops[i]? with
 | none=>rw [qu6 h];rfl
 | some o=>
  rw [qt6 h];simp only [Option.map_some,Option.getD_some];rw [← qd13];simp only [gd]
theorem qp11:Region.ready md ops l=qx12 (qe10 md ops).2 l.toList:=by
 unfold Bi qx12;rw [qp4];refine List.filter_congr (fun i _=>?_);rw [qf16]
theorem qn20:Region.free md ops l i=qo20 (qe10 md ops).2 l.toList i:=by
 unfold Region.free qo20
 cases h:ops[i]? with
 | none=>rw [qu6 h]
 | some oi=>
  rw [qt6 h];simp only [qu14];rw [List.all_filter]
  congr 1
  funext j
  rw [gd]
  cases hj:ops[j]? with
  | none=>cases (j == i)<;>cases (l.toList.getD j true)<;>simp
  | some oj=>
   cases (j == i)<;>cases (l.toList.getD j true)<;>cases (oj.after.any (fun e=>BD md e && e.on == i) || oi.apart ops oj)<;>simp_all
theorem qf21:Region.closedB md ops l=qb12 (qe10 md ops).2 l.toList:=by
 unfold Region.closedB qb12;rw [qp4]
 congr 1
 funext j
 rw [gd]
 cases h:ops[j]? with
 | none=>rw [qu6 h]
 | some o=>
  rw [qt6 h];simp only;rw [← qd13];simp only [gd]
theorem qg15:∀ (fuel d:Nat),Region.reachB md ops i fuel d=qs10 (qe10 md ops).2 i fuel d
 | 0,_=>rfl
 | fuel+1,d=>by
  unfold Region.reachB qs10
  cases h:ops[d]? with
  | none=>rw [qu6 h]
  | some o=>
   rw [qt6 h];simp only;rw [← qu19]
   congr 1
   funext e
   rw [qg15 fuel]
theorem last_eq:Region.lastB md ops l ds i=qb24 (qe10 md ops).2 l.toList ds i:=by
 unfold Region.lastB qb24;rw [qp4]
 congr 1
 funext d
 rw [gd,qg15]
theorem qf9 (h:qg5 T.2 l.toList i=true) (hT:qe10 md ops=T):(Bi md ops l).contains i=true:=by
 subst hT;rw [qp11];unfold qx12;rw [List.contains_iff_mem,List.mem_filter,List.mem_range];refine⟨?_,h⟩;unfold qg5 at h;rw [AF]at h
 cases hq:(qe10 md ops).2[i]? with
 | none=>rw [hq]at h;simp at h
 | some r=>exact(List.getElem?_eq_some_iff.1 hq).1
theorem qq18 (h:(l.toList.set i true == l'.toList)=true):(l.setIfInBounds i true == l')=true:=by
 rw [beq_iff_eq]at h ⊢;apply Array.ext';rw [Array.toList_setIfInBounds];exact h
def anyT (T:Bool × List (List Nat × List Nat)) (l l':List Bool) (i:Nat):Bool:=T.1 && qo20 T.2 l i && qg5 T.2 l i && (l.set i true == l')
theorem qg6 (hT:qe10 md ops=T) (h:anyT T l.toList l'.toList i=true):anyB md ops l l' i=true:=by
 simp only [anyT,AF]at h;obtain⟨⟨⟨h1,h2⟩,h3⟩,h4⟩:=h;have h5:=qf9 h3 hT;have h6:=qq18 h4;subst hT;simp only [anyB,AF];exact⟨⟨⟨h1,by rw [qn20];exact h2⟩,h5⟩,h6⟩
def takeT (T:Bool × List (List Nat × List Nat)) (ds:List Nat) (l l':List Bool) (i:Nat):Bool:=T.1 && qo20 T.2 l i && qg5 T.2 l i && qb12 T.2 l && qb24 T.2 l ds i && (l.set i true == l')
theorem take_of (hT:qe10 md ops=T) (h:takeT T ds l.toList l'.toList i=true):qg18 md ops ds l l' i=true:=by
 simp only [takeT,AF]at h;obtain⟨⟨⟨⟨⟨h1,h2⟩,h3⟩,h4⟩,h5⟩,h6⟩:=h;have h7:=qf9 h3 hT;have h8:=qq18 h6;subst hT;simp only [qg18,AF];exact⟨⟨⟨⟨⟨h1,by rw [qn20];exact h2⟩,h7⟩,by rw [qf21];exact h4⟩,by rw [last_eq];exact h5⟩,h8⟩
theorem one_of (hT:qe10 md ops=T) (h:(qx12 T.2 l.toList == [i] && l.toList.set i true == l'.toList)=true):qr10 md ops l l' i=true:=by
 simp only [AF]at h;obtain⟨h1,h2⟩:=h;subst hT;simp only [qr10,AF];exact⟨by rw [qp11];exact h1,qq18 h2⟩
theorem qy20 (hT:qe10 md ops=T) (h:(qx12 T.2 l.toList == [])=true):(Bi md ops l == [])=true:=by
 subst hT;rw [qp11];exact h
def upM (B:List Nat) (d:Nat):List Nat→Nat
 | []=>0
 | n :: r=>(2 ^ n ||| (if n<d then B.getD n 0 else 0)) ||| upM B d r
def qw8 (T:List (List Nat × List Nat)) (B:List Nat):Bool:=(List.range T.length).all fun d=>match T[d]? with
 | some r=>(B.getD d 0 ||| upM B d r.1) == upM B d r.1
 | none=>false
theorem qy17 {B:List Nat} {d i:Nat}:∀ {ns:List Nat},(upM B d ns).testBit i=true→ ∃ n ∈ ns,n=i∨(n<d∧(B.getD n 0).testBit i=true)
 | [],h=>by simp [upM]at h
 | n :: r,h=>by
  unfold upM at h;rw [Nat.testBit_or,Nat.testBit_or,Br,Br]at h
  rcases h with (h | h) | h
  ·rw [Nat.testBit_two_pow]at h;exact⟨n,List.mem_cons_self,.inl (by simpa using h)⟩
  ·by_cases hn:n<d
   ·rw [if_pos hn]at h;exact⟨n,List.mem_cons_self,.inr ⟨hn,h⟩⟩
   ·rw [if_neg hn]at h;simp at h
  ·obtain⟨m,hm,h2⟩:=qy17 h;exact⟨m,List.mem_cons_of_mem _ hm,h2⟩
theorem qy12 {T:List (List Nat × List Nat)} {B:List Nat} (hB:qw8 T B=true):∀ (fuel d:Nat),d<fuel→d<T.length→(B.getD d 0).testBit i=true→qs10 T i fuel d=true
 | 0,d,h,_,_=>by omega
 | fuel+1,d,h,hd,hb=>by
  have h1:=List.all_eq_true.1 hB d (List.mem_range.2 hd)
  cases hr:T[d]? with
  | none=>rw [hr]at h1;simp at h1
  | some r=>
   rw [hr]at h1;simp only [beq_iff_eq]at h1;have h2:(upM B d r.1).testBit i=true:=by rw [← h1,Nat.testBit_or,hb,Bool.true_or]
   obtain⟨n,hn,h3⟩:=qy17 h2;unfold qs10;rw [hr];simp only;rw [List.any_eq_true];refine⟨n,hn,?_⟩
   rcases h3 with rfl | ⟨h4,h5⟩
   ·simp
   ·rw [qy12 hB fuel n (by omega) (by omega) h5,Bool.or_true]
def lastW (T:List (List Nat × List Nat)) (B:List Nat) (l:List Bool) (ds:List Nat) (i:Nat):Bool:=ds.all fun d=>l.getD d true || (decide (d<T.length) && (B.getD d 0).testBit i)
def takeW (T:Bool × List (List Nat × List Nat)) (B:List Nat) (ds:List Nat) (l l':List Bool) (i:Nat):Bool:=T.1 && qo20 T.2 l i && qg5 T.2 l i && qb12 T.2 l && lastW T.2 B l ds i && (l.set i true == l')
theorem qk8 {B:List Nat} (hT:qe10 md ops=T) (hB:qw8 T.2 B=true) (h:takeW T B ds l.toList l'.toList i=true):qg18 md ops ds l l' i=true:=by
 refine take_of hT ?_;simp only [takeW,takeT,AF]at h ⊢;obtain⟨⟨⟨⟨⟨h1,h2⟩,h3⟩,h4⟩,h5⟩,h6⟩:=h;refine⟨⟨⟨⟨⟨h1,h2⟩,h3⟩,h4⟩,?_⟩,h6⟩;unfold lastW at h5;unfold qb24;rw [List.all_eq_true]at h5 ⊢;intro d hd;have h7:=h5 d hd;rw [Br,AF,decide_eq_true_eq]at h7
 rcases h7 with h7 | ⟨h8,h9⟩
 ·rw [h7,Bool.true_or]
 ·rw [qy12 hB _ d h8 h8 h9,Bool.or_true]
theorem qg12 {P:Program} {Q:Exit→Act→World→Prop} {S:World→Prop} {n:Nat} {a:Act} {w:World} {B:List Nat} (hT:qe10 md ops=T) (hB:qw8 T.2 B=true) (h:Aside0 (qe10 md ops=T)→Aside0 (qw8 T.2 B=true)→qk1 P md ops Q S ds n l a w):qk1 P md ops Q S ds n l a w:=h ⟨hT⟩ ⟨hB⟩
end
def qg10:Code→Nat→Option (Array Oper)
 | .region id ops _,k=>if id == k then some ops else none
 | .seq a b,k=>match qg10 a k with
  | some o=>some o
  | none=>qg10 b k
 | .cond _ a b,k=>match qg10 a k with
  | some o=>some o
  | none=>qg10 b k
 | .block _ c,k=>qg10 c k
 | .loop c,k=>qg10 c k
 | .scope c,k=>qg10 c k
 | .rangeFunc _ _ a b,k=>match qg10 a k with
  | some o=>some o
  | none=>qg10 b k
 | _,_=>none
def opsOf (f:Func) (k:Nat):Array Oper:=((f.body.bind fun c=>qg10 c k)).getD #[]
end Go.Proofs.YtocdckniokhbbaaGreatDoorW.PrintLast
namespace Go.Proofs.YtocdckniokhbbaaGreatDoor.PF
open Go.RowKit YtocdckniokhbbaaGreatDoorW.PrintWords YtocdckniokhbbaaGreatDoorW.PrintLast YtocdckniokhbbaaGreatDoorW.PrintMore
attribute [local go_sem] qw3 qt4
def char_Space.f (a0:Int):Option (Bool):=if a0=32 then(some true)else(if a0=9 then(some true)else(if a0=10 then(some true)else(some (a0 == 13))))
theorem char_Space.calls (a0:Int) (r:Bool) (w:World) (h:char_Space.f a0=some r) :
  Calls Aj 44 #[.int .i32 a0] w fun e w'=>e= .returned (Ae r)∧Drawn0 w w':=by
 have H:(if a0=32 then(some true)else(if a0=9 then(some true)else(if a0=10 then(some true)else(some (a0 == 13)))))=some r:=h;clear h;by_cases c2:a0=32
 ·rw [if_pos c2]at H;have c2b0:(a0 == 32)=true:=beq_iff_eq.mpr c2;have c2b1:(a0 !=32)=false:=bne_eq_false_iff_eq.mpr c2;clear c2;obtain rfl:=Ay.inj H;go_enter Tryz.func44,Tryz.ntmps44;go_wp2;go_ret;exact⟨zq,zt⟩
 ·rw [if_neg c2]at H;have c2b0:(a0 == 32)=false:=beq_eq_false_iff_ne.mpr c2;have c2b1:(a0 !=32)=true:=bne_iff_ne.mpr c2;by_cases c3:a0=9
  ·rw [if_pos c3]at H;have c3b0:(a0 == 9)=true:=beq_iff_eq.mpr c3;have c3b1:(a0 !=9)=false:=bne_eq_false_iff_eq.mpr c3;clear c3;obtain rfl:=Ay.inj H;go_enter Tryz.func44,Tryz.ntmps44;go_wp2;go_ret;exact⟨zq,zt⟩
  ·rw [if_neg c3]at H;have c3b0:(a0 == 9)=false:=beq_eq_false_iff_ne.mpr c3;have c3b1:(a0 !=9)=true:=bne_iff_ne.mpr c3;by_cases c4:a0=10
   ·rw [if_pos c4]at H;have c4b0:(a0 == 10)=true:=beq_iff_eq.mpr c4;have c4b1:(a0 !=10)=false:=bne_eq_false_iff_eq.mpr c4;clear c4;obtain rfl:=Ay.inj H;go_enter Tryz.func44,Tryz.ntmps44;go_wp2;go_ret;exact⟨zq,zt⟩
   ·rw [if_neg c4]at H;have c4b0:(a0 == 10)=false:=beq_eq_false_iff_ne.mpr c4;have c4b1:(a0 !=10)=true:=bne_iff_ne.mpr c4;obtain rfl:=Ay.inj H;go_enter Tryz.func44,Tryz.ntmps44;go_wp2;go_ret;exact⟨zq,zt⟩
end Go.Proofs.YtocdckniokhbbaaGreatDoor.PF
