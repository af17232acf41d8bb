import Derived.Test.YtocdckniokhbbaaGreatDoorZrZz
import Derived.Test.YtocdckniokhbbaaGreatDoorProg
import Derived.Test.YtocdckniokhbbaaGreatDoorZrWWords
import Derived.Test.YtocdckniokhbbaaGreatDoorZrWLast
import Derived.Test.YtocdckniokhbbaaGreatDoorZrWMore
import Derived.Laws.Externs
import Derived.Great.BuildSlice
import Derived.Deep.WholeRow
import Derived.Shelf.Strings.Builder1
import Derived.Shelf.Strings.Builder2
import Derived.Shelf.Strings.Trim
import Derived.Shelf.Small.Utf8
import Derived.Shelf.Small.Bits
import Derived.Shelf.Small.Strs
import Derived.Shelf.Small.Wraps
import Derived.Shelf.Strings.BuilderF
import Derived.Shelf.Strings.BuilderK
import Derived.Shelf.Strings.Builder2Cap
import Derived.Shelf.Strconv.Itoa0
import Derived.Shelf.Strings.Search1
import Derived.Shelf.Strings.Search2
import Derived.Shelf.Strings.Search3
import Derived.Shelf.Strings.Cut
import Derived.Shelf.LaysM
import Derived.Shelf.Strings.Shaped
import Derived.Shelf.GgClosure.StringsIndexFunc
import Derived.Shelf.GgClosure.StringsTrimFunc
import Derived.Shelf.GgClosure.StringsRunes
import Derived.Shelf.Strings.Prefix
import Derived.Shelf.Unicode.Decode
import Derived.Shelf.Strings.Runes
import Derived.Shelf.Strings.AsciiSet
import Derived.Shelf.Bits.Mul64
import Derived.Shelf.Strings.Repeat
import Derived.Shelf.Unicode.DecodeSlow
import Derived.Shelf.Unicode.DecodeAny
import Derived.Shelf.Strings.FuncGrows
import Derived.Shelf.Strings.BuilderCap
import Derived.Below
import Derived.Deep.Draws
import Derived.Deep.AppendLies
import Derived.Maps.AppendAt
import Derived.OwnWalk
import Derived.Laws.BytesArg
import Derived.Laws.MakeOwn
import Derived.Laws.OwnMore
import Derived.Deep.OwnRows
import Derived.Tactics
import Derived.Lib.ConvBytes
import Derived.Laws.Slices
import Derived.WalkKit
import Derived.KernelRfl
import Derived.RowKit3
import Derived.Deep.LoopGhost
import Derived.Deep.QuietTactic
import Derived.BigQuiet
import Derived.WideLaws
import Derived.Deep.DeepCutAuto
import Derived.Deep.CutBlock
import Derived.Deep.RegionHeld3
import Derived.Laws.Rows
import Derived.Lib.AppendStr
import Derived.ArgAppend
import Derived.Laws.IdiomCopy
import Derived.OrdersHeld
import Derived.Laws.BitsLemmas
import Derived.RowKit
import Derived.RegionTactic
import Derived.ChangeAlike
import Derived.BigRegion
import Derived.Laws.StructEq
set_option linter.unusedVariables false
set_option linter.unusedSimpArgs false
open Go.Proofs.Tryz renaming prog→Am,underlying3→BH,sizeOf3→BZ,zeroValue3→BP,underlying4→BG,sizeOf4→BV,zeroValue4→BN,sizeOf9→BU,zeroValue9→BM
open Go.Value renaming string→Ac,int→Aa,bool→Ae
open Go.IntKind renaming i64→Ab
open Go.Lib renaming decodeGo→BR
open Go.Region renaming binds→BA,Mode→BE,ready→Bh
open Array renaming getElem?_eq_some_iff→An
open Bool renaming and_eq_true→AK
open Option renaming some→Az
set_option maxHeartbeats 8000000
set_option maxRecDepth 100000
namespace Go.Proofs.YtocdckniokhbbaaGreatDoor.Mine
open Go.RowKit YtocdckniokhbbaaGreatDoorW.PrintWords YtocdckniokhbbaaGreatDoorW.PrintLast YtocdckniokhbbaaGreatDoorW.PrintMore
def CallsX (P:Program) (f:FuncId) (args:Array Value) (w:World) (R:Ending→World→Prop):Prop:=
 ∃ v,(callFunc f args).run P w= .ok (.value v) w∧R (.returned v) w
theorem CallsX.mono {P:Program} {f:FuncId} {args:Array Value} {w:World} {R R':Ending→World→Prop} (h:CallsX P f args w R) (hr:∀ e w',R e w'→R' e w'):CallsX P f args w R':=
 let ⟨v,h1,h2⟩:=h;⟨v,h1,hr _ _ h2⟩
section
variable {P:Program} {ops:Array Oper} {Q:Exit→Act→World→Prop}
theorem goesX_ {rest:List Oper} {oi:Oper} {a:Act} {w:World} (N:Option Tmp) (hd:oi.dst=N) (hg:oi.guard=none) {f:FuncId} {fn:Func} {xs:Array Operand} {ts:Array TypeId} (_hf:P.funcs[f]?=some fn) (_hname:(fn.name == "runtime.NumGoroutine")=false) (_hb:fn.body.isNone=true) (args:Array Value)
  (hop:oi.op= .call {callee:= .value (.func f),args:=xs,argTypes:=ts}) (hargs:xs.map a.eval=args)
  (h:CallsX P f args w fun e w'=>∃ v,e= .returned v∧wpList P ops Q rest (a.put N v) w'):wpList P ops Q (oi :: rest) a w:=by
 refine wpList_plain hg fun K hK=>?_;obtain⟨v,he,v',hv,hk⟩:=h;obtain rfl:v=v':=Ending.returned.inj hv
 have hrun:(execOp a.eval oi).run P w= .ok (.value v) w:=by
  unfold execOp;simp [hop,resolve,Deferred.ofValue,invoke,Act.eval,hargs,he]
 unfold Oper.wp;rw [hrun,Oper.upon_value];subst hd;exact hK _ _ hk
variable {o:Oper} {rest:List Oper} {a:Act} {W:World}
theorem gate_op (op:Op) (_ho:o.op=op) (h:wpList P ops Q (o :: rest) a W):wpList P ops Q (o :: rest) a W:=h
theorem store_new (hgd:o.guard=none) (ty:TypeId) (x y:Operand) (ho:o.op= .store ty x y)
  (hd:o.dst=none) (cells:Array Value) (hx:a.eval x= .pointer (some ⟨W.heap.size,0,none⟩)) (hy:a.eval y= .agg cells)
  (t:TypeId) (old:Array Value) (hi:(P.info? ty).map (·.size)=some cells.size)
  (hold:old.size=cells.size) (h1:cells.all (·.oneCell')=true)
  (h:wpList P ops Q rest a (W.alloc (.cells cells t))):wpList P ops Q (o :: rest) a (W.alloc (.cells old t)):=by
 refine wpList_store_rowTo hgd ty x y ho hd W.heap.size cells hx hy t old (heap_alloc_new _ _) hi hold h1 ?_;rw [World.setRow_alloc_new];exact h
end
theorem blk3 (w:World) (A B C:Obj):(((w.alloc A).alloc B).alloc C).heap[w.heap.size]?=some A∧(((w.alloc A).alloc B).alloc C).heap[w.heap.size+1]?=some B∧(((w.alloc A).alloc B).alloc C).heap[w.heap.size+1+1]?=some C:=by
 refine⟨qa (qa (qm _ _) _) _,?_,?_⟩
 ·have:=qa (qm (w.alloc A) B) C;simpa using this
 ·have:=qm ((w.alloc A).alloc B) C;simpa using this
end Go.Proofs.YtocdckniokhbbaaGreatDoor.Mine
/-
 DERIVED: THE SHELF's CONTRACTS AT THIS DUMP, IN PLAIN WORDS (tools/lay-plain.mjs out of 'TryzShelf.lean', which tools/lay-shelf.mjs wrote): THE SAME DECLARATIONS UNDER THE SAME NAMES: 'import', 'namespace', 'open', 'def', 'theorem' AND NOTHING ELSE: no command of the shelf's: FOR A HAND-IN. Each laying: the table of numbers ('.._ren') and one theorem, a field a fact of the dump's own or the kernel's comparison; each contract: ONE APPLICATION.
-/
namespace Go.Proofs
open Go.Shelf
def Tryz.lays161_ren:Go.Shelf.Ren:=⟨fun | 161=>126 | 231=>155 | 227=>156 | 233=>157 | 235=>158 | 228=>188 | 197=>130 | 151=>189 | 260=>172 | 152=>203 | 137=>213 | 119=>214 | 224=>182 | 225=>181 | 217=>180 | 266=>199 | n=>n,fun | 9=>9 | 4=>4 | 3=>3 | 5=>5 | 117=>193 | 116=>192 | 0=>0 | 124=>196 | 105=>163 | 21=>21 | 119=>146 | 46=>150 | 139=>149 | 138=>148 | n=>n,fun | 3=>0 | 4=>1 | n=>n⟩
theorem Tryz.lays161:Go.Proofs.Lays.n161 Am Tryz.lays161_ren:={
 mixed:=by kernel_rfl
 f119:=Tryz.func214.trans (congrArg some zr)
 f137:=Tryz.func213.trans (congrArg some zr)
 f151:=Tryz.func189.trans (congrArg some zr)
 f152:=Tryz.func203.trans (congrArg some zr)
 f161:=Tryz.func126.trans (congrArg some zr)
 f197:=Tryz.func130.trans (congrArg some zr)
 f217:=Tryz.func180.trans (congrArg some zr)
 f224:=Tryz.func182.trans (congrArg some zr)
 f225:=Tryz.func181.trans (congrArg some zr)
 f227:=Tryz.func156.trans (congrArg some zr)
 f228:=Tryz.func188.trans (congrArg some zr)
 f231:=Tryz.func155.trans (congrArg some zr)
 f233:=Tryz.func157.trans (congrArg some zr)
 f235:=Tryz.func158.trans (congrArg some zr)
 f260:=Tryz.func172.trans (congrArg some zr)
 f266:=Tryz.func199.trans (congrArg some zr)
 t0:=Tryz.underlying0
 a0:=Tryz.isAgg0
 z0:=Tryz.sizeOf0
 v0:=Tryz.zeroValue0
 t3:=BH
 a3:=Tryz.isAgg3
 z3:=BZ
 v3:=BP
 t4:=BG
 a4:=Tryz.isAgg4
 z4:=BV
 v4:=BN
 t5:=Tryz.underlying5
 a5:=Tryz.isAgg5
 z5:=Tryz.sizeOf5
 v5:=Tryz.zeroValue5
 t9:=Tryz.underlying9
 a9:=Tryz.isAgg9
 z9:=BU
 v9:=BM
 t21:=Tryz.underlying21
 a21:=Tryz.isAgg21
 z21:=Tryz.sizeOf21
 v21:=Tryz.zeroValue21
 t46:=Tryz.underlying150
 a46:=Tryz.isAgg150
 z46:=Tryz.sizeOf150
 v46:=Tryz.zeroValue150
 t105:=Tryz.underlying163
 a105:=Tryz.isAgg163
 z105:=Tryz.sizeOf163
 v105:=Tryz.zeroValue163
 t116:=Tryz.underlying192
 a116:=Tryz.isAgg192
 z116:=Tryz.sizeOf192
 t117:=Tryz.underlying193
 a117:=Tryz.isAgg193
 z117:=Tryz.sizeOf193
 v117:=Tryz.zeroValue193
 t119:=Tryz.underlying146
 a119:=Tryz.isAgg146
 z119:=Tryz.sizeOf146
 t124:=Tryz.underlying196
 a124:=Tryz.isAgg196
 z124:=Tryz.sizeOf196
 v124:=Tryz.zeroValue196
 t138:=Tryz.underlying148
 a138:=Tryz.isAgg148
 z138:=Tryz.sizeOf148
 v138:=Tryz.zeroValue148
 t139:=Tryz.underlying149
 a139:=Tryz.isAgg149
 z139:=Tryz.sizeOf149
 v139:=Tryz.zeroValue149
 g3:=by kernel_rfl
 g4:=zr}
open Go.RowKit in
theorem Tryz.strings_TrimLeft_one (s:ByteArray) (c:UInt8) (hc:c.toNat<128) (w:World) :
  Calls Am 126 #[Ac s,Ac ⟨#[c]⟩] w fun e w'=>e= .returned (Ac ⟨(Lib.trimLeftB s.data.toList c).toArray⟩)∧w'=w:=Any.strings_TrimLeft_one Tryz.lays161 s c hc w
def Tryz.lays134_ren:Go.Shelf.Ren:=⟨fun | 134=>190 | 129=>204 | n=>n,fun | 53=>173 | 3=>3 | 4=>4 | 46=>150 | 5=>5 | 9=>9 | n=>n,fun | n=>n⟩
theorem Tryz.lays134:Go.Proofs.Lays.n134 Am Tryz.lays134_ren:={
 mixed:=by kernel_rfl
 f129:=Tryz.func204.trans (congrArg some zr)
 f134:=Tryz.func190.trans (congrArg some zr)
 t3:=BH
 a3:=Tryz.isAgg3
 z3:=BZ
 v3:=BP
 t4:=BG
 a4:=Tryz.isAgg4
 z4:=BV
 v4:=BN
 t5:=Tryz.underlying5
 a5:=Tryz.isAgg5
 z5:=Tryz.sizeOf5
 v5:=Tryz.zeroValue5
 t9:=Tryz.underlying9
 a9:=Tryz.isAgg9
 z9:=BU
 v9:=BM
 t46:=Tryz.underlying150
 a46:=Tryz.isAgg150
 z46:=Tryz.sizeOf150
 v46:=Tryz.zeroValue150
 t53:=Tryz.underlying173
 a53:=Tryz.isAgg173
 z53:=Tryz.sizeOf173
 v53:=Tryz.zeroValue173}
theorem Tryz.bits_LeadingZeros64 (x:Int) (w:World) (h0:0≤x) (h1:x≤18446744073709551615) :
  Calls Am 190 #[.int .u64 x] w fun e w'=>e= .returned (Aa Ab (64 - (Lib.bitLen x.toNat:Int)))∧w'=w:=Any.bits_LeadingZeros64 Tryz.lays134 x w h0 h1
def Tryz.lays103_ren:Go.Shelf.Ren:=⟨fun | 103=>91 | 210=>129 | 206=>171 | n=>n,fun | 9=>9 | 4=>4 | 24=>123 | 3=>3 | n=>n,fun | n=>n⟩
theorem Tryz.lays103:Go.Proofs.Lays.n103 Am Tryz.lays103_ren:={
 mixed:=by kernel_rfl
 f103:=Tryz.func91.trans (congrArg some zr)
 f206:=Tryz.func171.trans (congrArg some zr)
 f210:=Tryz.func129.trans (congrArg some zr)
 t3:=BH
 a3:=Tryz.isAgg3
 z3:=BZ
 v3:=BP
 t4:=BG
 a4:=Tryz.isAgg4
 z4:=BV
 v4:=BN
 t9:=Tryz.underlying9
 a9:=Tryz.isAgg9
 z9:=BU
 v9:=BM
 t24:=Tryz.underlying123
 a24:=Tryz.isAgg123
 z24:=Tryz.sizeOf123
 v24:=Tryz.zeroValue123}
open Go.RowKit in
theorem Tryz.strings_CutPrefix (s p:ByteArray) (w:World) :
  Calls Am 91 #[Ac s,Ac p] w fun e w'=>e= .returned (.tuple #[Ac ⟨(Lib.trimPrefix s.data.toList p.data.toList).toArray⟩,Ae (Lib.hasPrefix s.data.toList p.data.toList)])∧w'=w:=Any.strings_CutPrefix Tryz.lays103 s p w
def Tryz.lays219_ren:Go.Shelf.Ren:=⟨fun | 219=>143 | 217=>180 | 225=>181 | 224=>182 | 267=>183 | 266=>199 | 314=>200 | n=>n,fun | 9=>9 | 3=>3 | 4=>4 | 5=>5 | 46=>150 | 146=>216 | 51=>215 | n=>n,fun | 1=>2 | n=>n⟩
theorem Tryz.lays219:Go.Proofs.Lays.n219 Am Tryz.lays219_ren:={
 mixed:=by kernel_rfl
 f217:=Tryz.func180.trans (congrArg some zr)
 f219:=Tryz.func143.trans (congrArg some zr)
 f224:=Tryz.func182.trans (congrArg some zr)
 f225:=Tryz.func181.trans (congrArg some zr)
 f266:=Tryz.func199.trans (congrArg some zr)
 f267:=Tryz.func183.trans (congrArg some zr)
 f314:=Tryz.func200.trans (congrArg some zr)
 t3:=BH
 a3:=Tryz.isAgg3
 z3:=BZ
 v3:=BP
 t4:=BG
 a4:=Tryz.isAgg4
 z4:=BV
 v4:=BN
 t5:=Tryz.underlying5
 a5:=Tryz.isAgg5
 z5:=Tryz.sizeOf5
 v5:=Tryz.zeroValue5
 t9:=Tryz.underlying9
 a9:=Tryz.isAgg9
 z9:=BU
 v9:=BM
 t46:=Tryz.underlying150
 a46:=Tryz.isAgg150
 z46:=Tryz.sizeOf150
 v46:=Tryz.zeroValue150
 t51:=Tryz.underlying215
 a51:=Tryz.isAgg215
 z51:=Tryz.sizeOf215
 v51:=Tryz.zeroValue215
 t146:=Tryz.underlying216
 a146:=Tryz.isAgg216
 z146:=Tryz.sizeOf216
 v146:=Tryz.zeroValue216
 g1:=zr}
open Go.RowKit Go.Lib in
theorem Tryz.stringslite_Index_one (s:ByteArray) (c:UInt8) (w:World) :
  Calls Am 143 #[Ac s,Ac ⟨#[c]⟩] w fun e w'=>e= .returned (Aa Ab (Lib.indexByte s.data.toList c))∧w'=w:=Any.stringslite_Index_one Tryz.lays219 s c w
def Tryz.lays272_ren:Go.Shelf.Ren:=⟨fun | 272=>43 | 315=>86 | n=>n,fun | 9=>9 | 40=>88 | 4=>4 | 3=>3 | 0=>0 | 21=>21 | n=>n,fun | n=>n⟩
theorem Tryz.lays272:Go.Proofs.Lays.n272 Am Tryz.lays272_ren:={
 mixed:=by kernel_rfl
 f272:=Tryz.func43.trans (congrArg some zr)
 f315:=Tryz.func86.trans (congrArg some zr)
 t0:=Tryz.underlying0
 a0:=Tryz.isAgg0
 z0:=Tryz.sizeOf0
 v0:=Tryz.zeroValue0
 t3:=BH
 a3:=Tryz.isAgg3
 z3:=BZ
 v3:=BP
 t4:=BG
 a4:=Tryz.isAgg4
 z4:=BV
 v4:=BN
 t9:=Tryz.underlying9
 a9:=Tryz.isAgg9
 z9:=BU
 v9:=BM
 t21:=Tryz.underlying21
 a21:=Tryz.isAgg21
 z21:=Tryz.sizeOf21
 v21:=Tryz.zeroValue21
 t40:=Tryz.underlying88
 a40:=Tryz.isAgg88
 z40:=Tryz.sizeOf88
 v40:=Tryz.zeroValue88}
open Go.RowKit Go.Lib in
theorem Tryz.strings_TrimLeftFunc_runes (g:Nat) (lb:Array Value) (eg:∀ args w,(callFunc g args).run Am w= .ok (.enter g args) w) (p:Nat→Bool) (s:ByteArray) (w:World) (hp:PredAtRunes Am g lb p w) :
  Calls Am 43 #[Ac s,.func (.func g) #[] lb] w fun e w'=>e= .returned (Ac (Lib.trimLeftF p s))∧Below w.heap.size w w':=Any.strings_TrimLeftFunc_runes Tryz.lays272 g lb eg p s w hp
def Tryz.lays99_ren:Go.Shelf.Ren:=⟨fun | 99=>131 | 206=>171 | n=>n,fun | 9=>9 | 4=>4 | 3=>3 | n=>n,fun | n=>n⟩
theorem Tryz.lays99:Go.Proofs.Lays.n99 Am Tryz.lays99_ren:={
 mixed:=by kernel_rfl
 f99:=Tryz.func131.trans (congrArg some zr)
 f206:=Tryz.func171.trans (congrArg some zr)
 t3:=BH
 a3:=Tryz.isAgg3
 z3:=BZ
 v3:=BP
 t4:=BG
 a4:=Tryz.isAgg4
 z4:=BV
 v4:=BN
 t9:=Tryz.underlying9
 a9:=Tryz.isAgg9
 z9:=BU
 v9:=BM}
open Go.RowKit Go.Lib in
theorem Tryz.strings_HasPrefix (s p:ByteArray) (w:World) :
  Calls Am 131 #[Ac s,Ac p] w fun e w'=>e= .returned (Ae (Lib.hasPrefix s.data.toList p.data.toList))∧w'=w:=Any.strings_HasPrefix Tryz.lays99 s p w
def Tryz.lays105_ren:Go.Shelf.Ren:=⟨fun | 105=>124 | 212=>148 | 99=>131 | 165=>149 | 166=>150 | 170=>151 | 169=>152 | 263=>185 | 264=>167 | 206=>171 | 240=>186 | 241=>187 | 276=>201 | 277=>202 | n=>n,fun | 9=>9 | 3=>3 | 4=>4 | 20=>20 | 0=>0 | 46=>150 | 109=>176 | 5=>5 | 72=>180 | 76=>184 | 51=>215 | 146=>216 | 53=>173 | 148=>199 | 70=>178 | 37=>160 | 75=>183 | 127=>218 | 164=>232 | 80=>187 | n=>n,fun | n=>n⟩
theorem Tryz.lays105:Go.Proofs.Lays.n105 Am Tryz.lays105_ren:={
 mixed:=by kernel_rfl
 f99:=Tryz.func131.trans (congrArg some zr)
 f105:=Tryz.func124.trans (congrArg some zr)
 f165:=Tryz.func149.trans (congrArg some zr)
 f166:=Tryz.func150.trans (congrArg some zr)
 f169:=Tryz.func152.trans (congrArg some zr)
 f170:=Tryz.func151.trans (congrArg some zr)
 f206:=Tryz.func171.trans (congrArg some zr)
 f212:=Tryz.func148.trans (congrArg some zr)
 f240:=Tryz.func186.trans (congrArg some zr)
 f241:=Tryz.func187.trans (congrArg some zr)
 f263:=Tryz.func185.trans (congrArg some zr)
 f264:=Tryz.func167.trans (congrArg some zr)
 f276:=Tryz.func201.trans (congrArg some zr)
 f277:=Tryz.func202.trans (congrArg some zr)
 t0:=Tryz.underlying0
 a0:=Tryz.isAgg0
 z0:=Tryz.sizeOf0
 v0:=Tryz.zeroValue0
 t3:=BH
 a3:=Tryz.isAgg3
 z3:=BZ
 v3:=BP
 t4:=BG
 a4:=Tryz.isAgg4
 z4:=BV
 v4:=BN
 t5:=Tryz.underlying5
 a5:=Tryz.isAgg5
 z5:=Tryz.sizeOf5
 v5:=Tryz.zeroValue5
 t9:=Tryz.underlying9
 a9:=Tryz.isAgg9
 z9:=BU
 v9:=BM
 t20:=Tryz.underlying20
 a20:=Tryz.isAgg20
 z20:=Tryz.sizeOf20
 v20:=Tryz.zeroValue20
 t37:=Tryz.underlying160
 a37:=Tryz.isAgg160
 z37:=Tryz.sizeOf160
 v37:=Tryz.zeroValue160
 t46:=Tryz.underlying150
 a46:=Tryz.isAgg150
 z46:=Tryz.sizeOf150
 v46:=Tryz.zeroValue150
 t51:=Tryz.underlying215
 a51:=Tryz.isAgg215
 z51:=Tryz.sizeOf215
 v51:=Tryz.zeroValue215
 t53:=Tryz.underlying173
 a53:=Tryz.isAgg173
 z53:=Tryz.sizeOf173
 v53:=Tryz.zeroValue173
 t70:=Tryz.underlying178
 a70:=Tryz.isAgg178
 z70:=Tryz.sizeOf178
 v70:=Tryz.zeroValue178
 t72:=Tryz.underlying180
 a72:=Tryz.isAgg180
 z72:=Tryz.sizeOf180
 v72:=Tryz.zeroValue180
 t75:=Tryz.underlying183
 a75:=Tryz.isAgg183
 z75:=Tryz.sizeOf183
 v75:=Tryz.zeroValue183
 t76:=Tryz.underlying184
 a76:=Tryz.isAgg184
 z76:=Tryz.sizeOf184
 v76:=Tryz.zeroValue184
 t109:=Tryz.underlying176
 a109:=Tryz.isAgg176
 z109:=Tryz.sizeOf176
 v109:=Tryz.zeroValue176
 t127:=Tryz.underlying218
 a127:=Tryz.isAgg218
 z127:=Tryz.sizeOf218
 v127:=Tryz.zeroValue218
 t146:=Tryz.underlying216
 a146:=Tryz.isAgg216
 z146:=Tryz.sizeOf216
 v146:=Tryz.zeroValue216
 t148:=Tryz.underlying199
 a148:=Tryz.isAgg199
 z148:=Tryz.sizeOf199
 v148:=Tryz.zeroValue199
 t164:=Tryz.underlying232
 a164:=Tryz.isAgg232
 z164:=Tryz.sizeOf232
 v164:=Tryz.zeroValue232}
theorem Tryz.Builder_Extra_105:Builder.Extra Am Tryz.lays105_ren:={
 sizeBuilder:=by kernel_rfl
 liesBuilder:=by kernel_rfl
 t5:=Tryz.underlying5
 a5:=Tryz.isAgg5
 z5:=Tryz.sizeOf5
 v5:=Tryz.zeroValue5
 infoByte:=by kernel_rfl
 cellsByte:=by kernel_rfl
 sizeByte:=by kernel_rfl
 neB5:=by decide}
open Go.RowKit Go.Lib in
theorem Tryz.strings_Repeat (s:ByteArray) (c:Nat) (w:World) (hc:c≤9223372036854775807) (hlen:s.size*c≤140737488355328) :
  Calls Am 124 #[Ac s,Aa Ab c] w fun e w'=>e= .returned (Ac ⟨(Lib.repeatL s.data.toList c).toArray⟩)∧Below w.heap.size w w':=Any.strings_Repeat Tryz.lays105 Tryz.Builder_Extra_105 s c w hc hlen
def Tryz.lays260_ren:Go.Shelf.Ren:=⟨fun | 260=>172 | n=>n,fun | 9=>9 | 21=>21 | 3=>3 | 4=>4 | 5=>5 | 119=>146 | 0=>0 | 46=>150 | 139=>149 | 138=>148 | n=>n,fun | 3=>0 | 4=>1 | n=>n⟩
theorem Tryz.lays260:Go.Proofs.Lays.n260 Am Tryz.lays260_ren:={
 mixed:=by kernel_rfl
 f260:=Tryz.func172.trans (congrArg some zr)
 t0:=Tryz.underlying0
 a0:=Tryz.isAgg0
 z0:=Tryz.sizeOf0
 v0:=Tryz.zeroValue0
 t3:=BH
 a3:=Tryz.isAgg3
 z3:=BZ
 v3:=BP
 t4:=BG
 a4:=Tryz.isAgg4
 z4:=BV
 v4:=BN
 t5:=Tryz.underlying5
 a5:=Tryz.isAgg5
 z5:=Tryz.sizeOf5
 v5:=Tryz.zeroValue5
 t9:=Tryz.underlying9
 a9:=Tryz.isAgg9
 z9:=BU
 v9:=BM
 t21:=Tryz.underlying21
 a21:=Tryz.isAgg21
 z21:=Tryz.sizeOf21
 v21:=Tryz.zeroValue21
 t46:=Tryz.underlying150
 a46:=Tryz.isAgg150
 z46:=Tryz.sizeOf150
 v46:=Tryz.zeroValue150
 t119:=Tryz.underlying146
 a119:=Tryz.isAgg146
 z119:=Tryz.sizeOf146
 t138:=Tryz.underlying148
 a138:=Tryz.isAgg148
 z138:=Tryz.sizeOf148
 v138:=Tryz.zeroValue148
 t139:=Tryz.underlying149
 a139:=Tryz.isAgg149
 z139:=Tryz.sizeOf149
 v139:=Tryz.zeroValue149
 g3:=by kernel_rfl
 g4:=zr}
open Go.RowKit Go.Lib in
theorem Tryz.utf8_decodeRuneInStringSlow (s:ByteArray) (w:World) (hT:Lib.Utf8Tabs 0 1 w) :
  Calls Am 172 #[Ac s] w fun e w'=>e= .returned (.tuple #[.int .i32 (BR s).1,Aa Ab (BR s).2])∧Below w.heap.size w w':=Any.utf8_decodeRuneInStringSlow Tryz.lays260 s w hT
end Go.Proofs
namespace Go.Proofs.YtocdckniokhbbaaGreatDoorW.PrintLast
open Go.Proofs.YtocdckniokhbbaaGreatDoorW.PrintWords (Aside0)
def qb8 (md:BE) (o:Oper):List Nat:=(o.after.toList.filter (fun e=>BA md e)).map (fun e=>e.on)
def qh16 (md:BE) (ops:Array Oper) (i:Nat) (oi:Oper):List Nat:=(List.range ops.size).filter fun j=> !(j == i) && match ops[j]? with
 | some oj=> !(oj.after.any (fun e=>BA md e && e.on == i) || oi.apart ops oj)
 | none=>false
def qv10 (md:BE) (ops:Array Oper):Bool × List (List Nat × List Nat):=(Region.noSelect ops,(List.range ops.size).map fun i=>match ops[i]? with
 | some o=>(qb8 md o,qh16 md ops i o)
 | none=>([],[]))
def qt5 (T:List (List Nat × List Nat)) (l:List Bool) (i:Nat):Bool:= !l.getD i true && match T[i]? with
 | some r=>r.1.all (fun j=>l.getD j false)
 | none=>false
def qb14 (T:List (List Nat × List Nat)) (l:List Bool):List Nat:=(List.range T.length).filter (qt5 T l)
def qa22 (T:List (List Nat × List Nat)) (l:List Bool) (i:Nat):Bool:=match T[i]? with
 | some r=>r.2.all (fun j=>l.getD j true)
 | none=>false
def qb13 (T:List (List Nat × List Nat)) (l:List Bool):Bool:=(List.range T.length).all fun j=> !l.getD j false || match T[j]? with
 | some r=>r.1.all (fun k=>l.getD k false)
 | none=>true
def qk11 (T:List (List Nat × List Nat)) (i:Nat):Nat→Nat→Bool
 | 0,_=>false
 | fuel+1,d=>match T[d]? with
  | some r=>r.1.any fun j=>j == i || qk11 T i fuel j
  | none=>false
def qv25 (T:List (List Nat × List Nat)) (l:List Bool) (ds:List Nat) (i:Nat):Bool:=ds.all fun d=>l.getD d true || qk11 T i T.length d
section
variable {md:BE} {ops:Array Oper} {T:Bool × List (List Nat × List Nat)} {l l' li lj lk:Array Bool} {ds:List Nat} {i j k:Nat}
theorem gd (l:Array Bool) (j:Nat) (b:Bool):l.getD j b=l.toList.getD j b:=by simp [Array.getD_eq_getD_getElem?,List.getD_eq_getElem?_getD]
theorem qk14 (o:Oper) (p:Nat→Bool):o.after.all (fun e=> !Region.binds md e || p e.on)=(qb8 md o).all p:=by
 unfold qb8;rw [← Array.all_toList]
 induction o.after.toList with
 | nil=>rfl
 | cons e r ih=>
  rw [List.all_cons,ih,List.filter_cons]
  cases h:BA md e<;>simp
theorem qg21 (o:Oper) (p:Nat→Bool):o.after.any (fun e=>BA md e && p e.on)=(qb8 md o).any p:=by
 unfold qb8;rw [← Array.any_toList]
 induction o.after.toList with
 | nil=>rfl
 | cons e r ih=>
  rw [List.any_cons,ih,List.filter_cons]
  cases h:BA md e<;>simp
theorem qv4:(qv10 md ops).2.length=ops.size:=by simp [qv10]
theorem qb7 {o:Oper} (h:ops[i]?=some o):(qv10 md ops).2[i]?=some (qb8 md o,qh16 md ops i o):=by
 have hi:=(An.1 h).1;unfold qv10;rw [List.getElem?_map,List.getElem?_range hi,Option.map_some,h]
theorem qc7 (h:ops[i]?=none):(qv10 md ops).2[i]?=none:=by
 have hi:ops.size≤i:=Array.getElem?_eq_none_iff.1 h;exact List.getElem?_eq_none (by rw [qv4];exact hi)
theorem qb18:qt5 (qv10 md ops).2 l.toList i=(!l.getD i true && ((ops[i]?).map (·.after.all fun e=> !Region.binds md e || l.getD e.on false)).getD false):=by
 unfold qt5;rw [gd]
 cases h:ops[i]? with
 | none=>rw [qc7 h];rfl
 | some o=>
  rw [qb7 h];simp only [Option.map_some,Option.getD_some];rw [← qk14];simp only [gd]
theorem qj12:Region.ready md ops l=qb14 (qv10 md ops).2 l.toList:=by
 unfold Bh qb14;rw [qv4];refine List.filter_congr (fun i _=>?_);rw [qb18]
theorem qz21:Region.free md ops l i=qa22 (qv10 md ops).2 l.toList i:=by
 unfold Region.free qa22
 cases h:ops[i]? with
 | none=>rw [qc7 h]
 | some oi=>
  rw [qb7 h];simp only [qh16];rw [List.all_filter]
  congr 1
  funext j
  rw [gd]
  cases hj:ops[j]? with
  | none=>cases (j == i)<;>cases (l.toList.getD j true)<;>simp
  | some oj=>
   cases (j == i)<;>cases (l.toList.getD j true)<;>cases (oj.after.any (fun e=>BA md e && e.on == i) || oi.apart ops oj)<;>simp_all
theorem qs22:Region.closedB md ops l=qb13 (qv10 md ops).2 l.toList:=by
 unfold Region.closedB qb13;rw [qv4]
 congr 1
 funext j
 rw [gd]
 cases h:ops[j]? with
 | none=>rw [qc7 h]
 | some o=>
  rw [qb7 h];simp only;rw [← qk14];simp only [gd]
theorem qy16:∀ (fuel d:Nat),Region.reachB md ops i fuel d=qk11 (qv10 md ops).2 i fuel d
 | 0,_=>rfl
 | fuel+1,d=>by
  unfold Region.reachB qk11
  cases h:ops[d]? with
  | none=>rw [qc7 h]
  | some o=>
   rw [qb7 h];simp only;rw [← qg21]
   congr 1
   funext e
   rw [qy16 fuel]
theorem last_eq:Region.lastB md ops l ds i=qv25 (qv10 md ops).2 l.toList ds i:=by
 unfold Region.lastB qv25;rw [qv4]
 congr 1
 funext d
 rw [gd,qy16]
theorem qs9 (h:qt5 T.2 l.toList i=true) (hT:qv10 md ops=T):(Bh md ops l).contains i=true:=by
 subst hT;rw [qj12];unfold qb14;rw [List.contains_iff_mem,List.mem_filter,List.mem_range];refine⟨?_,h⟩;unfold qt5 at h;rw [AK]at h
 cases hq:(qv10 md ops).2[i]? with
 | none=>rw [hq]at h;simp at h
 | some r=>exact(List.getElem?_eq_some_iff.1 hq).1
theorem qf20 (h:(l.toList.set i true == l'.toList)=true):(l.setIfInBounds i true == l')=true:=by
 rw [beq_iff_eq]at h ⊢;apply Array.ext';rw [Array.toList_setIfInBounds];exact h
def anyT (T:Bool × List (List Nat × List Nat)) (l l':List Bool) (i:Nat):Bool:=T.1 && qa22 T.2 l i && qt5 T.2 l i && (l.set i true == l')
theorem qm6 (hT:qv10 md ops=T) (h:anyT T l.toList l'.toList i=true):anyB md ops l l' i=true:=by
 simp only [anyT,AK]at h;obtain⟨⟨⟨h1,h2⟩,h3⟩,h4⟩:=h;have h5:=qs9 h3 hT;have h6:=qf20 h4;subst hT;simp only [anyB,AK];exact⟨⟨⟨h1,by rw [qz21];exact h2⟩,h5⟩,h6⟩
def takeT (T:Bool × List (List Nat × List Nat)) (ds:List Nat) (l l':List Bool) (i:Nat):Bool:=T.1 && qa22 T.2 l i && qt5 T.2 l i && qb13 T.2 l && qv25 T.2 l ds i && (l.set i true == l')
theorem take_of (hT:qv10 md ops=T) (h:takeT T ds l.toList l'.toList i=true):qs19 md ops ds l l' i=true:=by
 simp only [takeT,AK]at h;obtain⟨⟨⟨⟨⟨h1,h2⟩,h3⟩,h4⟩,h5⟩,h6⟩:=h;have h7:=qs9 h3 hT;have h8:=qf20 h6;subst hT;simp only [qs19,AK];exact⟨⟨⟨⟨⟨h1,by rw [qz21];exact h2⟩,h7⟩,by rw [qs22];exact h4⟩,by rw [last_eq];exact h5⟩,h8⟩
theorem qp11 (hT:qv10 md ops=T) (h:(qb14 T.2 l.toList == [i] && l.toList.set i true == l'.toList)=true):qj11 md ops l l' i=true:=by
 simp only [AK]at h;obtain⟨h1,h2⟩:=h;subst hT;simp only [qj11,AK];exact⟨by rw [qj12];exact h1,qf20 h2⟩
theorem qk22 (hT:qv10 md ops=T) (h:(qb14 T.2 l.toList == [])=true):(Bh md ops l == [])=true:=by
 subst hT;rw [qj12];exact h
def upM (B:List Nat) (d:Nat):List Nat→Nat
 | []=>0
 | n :: r=>(2 ^ n ||| (if n<d then B.getD n 0 else 0)) ||| upM B d r
def qg9 (T:List (List Nat × List Nat)) (B:List Nat):Bool:=(List.range T.length).all fun d=>match T[d]? with
 | some r=>(B.getD d 0 ||| upM B d r.1) == upM B d r.1
 | none=>false
theorem qo19 {B:List Nat} {d i:Nat}:∀ {ns:List Nat},(upM B d ns).testBit i=true→ ∃ n ∈ ns,n=i∨(n<d∧(B.getD n 0).testBit i=true)
 | [],h=>by simp [upM]at h
 | n :: r,h=>by
  unfold upM at h;rw [Nat.testBit_or,Nat.testBit_or,Bool.or_eq_true,Bool.or_eq_true]at h
  rcases h with (h | h) | h
  ·rw [Nat.testBit_two_pow]at h;exact⟨n,List.mem_cons_self,.inl (by simpa using h)⟩
  ·by_cases hn:n<d
   ·rw [if_pos hn]at h;exact⟨n,List.mem_cons_self,.inr ⟨hn,h⟩⟩
   ·rw [if_neg hn]at h;simp at h
  ·obtain⟨m,hm,h2⟩:=qo19 h;exact⟨m,List.mem_cons_of_mem _ hm,h2⟩
theorem qc14 {T:List (List Nat × List Nat)} {B:List Nat} (hB:qg9 T B=true):∀ (fuel d:Nat),d<fuel→d<T.length→(B.getD d 0).testBit i=true→qk11 T i fuel d=true
 | 0,d,h,_,_=>by omega
 | fuel+1,d,h,hd,hb=>by
  have h1:=List.all_eq_true.1 hB d (List.mem_range.2 hd)
  cases hr:T[d]? with
  | none=>rw [hr]at h1;simp at h1
  | some r=>
   rw [hr]at h1;simp only [beq_iff_eq]at h1;have h2:(upM B d r.1).testBit i=true:=by rw [← h1,Nat.testBit_or,hb,Bool.true_or]
   obtain⟨n,hn,h3⟩:=qo19 h2;unfold qk11;rw [hr];simp only;rw [List.any_eq_true];refine⟨n,hn,?_⟩
   rcases h3 with rfl | ⟨h4,h5⟩
   ·simp
   ·rw [qc14 hB fuel n (by omega) (by omega) h5,Bool.or_true]
def lastW (T:List (List Nat × List Nat)) (B:List Nat) (l:List Bool) (ds:List Nat) (i:Nat):Bool:=ds.all fun d=>l.getD d true || (decide (d<T.length) && (B.getD d 0).testBit i)
def takeW (T:Bool × List (List Nat × List Nat)) (B:List Nat) (ds:List Nat) (l l':List Bool) (i:Nat):Bool:=T.1 && qa22 T.2 l i && qt5 T.2 l i && qb13 T.2 l && lastW T.2 B l ds i && (l.set i true == l')
theorem qy8 {B:List Nat} (hT:qv10 md ops=T) (hB:qg9 T.2 B=true) (h:takeW T B ds l.toList l'.toList i=true):qs19 md ops ds l l' i=true:=by
 refine take_of hT ?_;simp only [takeW,takeT,AK]at h ⊢;obtain⟨⟨⟨⟨⟨h1,h2⟩,h3⟩,h4⟩,h5⟩,h6⟩:=h;refine⟨⟨⟨⟨⟨h1,h2⟩,h3⟩,h4⟩,?_⟩,h6⟩;unfold lastW at h5;unfold qv25;rw [List.all_eq_true]at h5 ⊢;intro d hd;have h7:=h5 d hd;rw [Bool.or_eq_true,AK,decide_eq_true_eq]at h7
 rcases h7 with h7 | ⟨h8,h9⟩
 ·rw [h7,Bool.true_or]
 ·rw [qc14 hB _ d h8 h8 h9,Bool.or_true]
theorem qh13 {P:Program} {Q:Exit→Act→World→Prop} {S:World→Prop} {n:Nat} {a:Act} {w:World} {B:List Nat} (hT:qv10 md ops=T) (hB:qg9 T.2 B=true) (h:Aside0 (qv10 md ops=T)→Aside0 (qg9 T.2 B=true)→qd1 P md ops Q S ds n l a w):qd1 P md ops Q S ds n l a w:=h ⟨hT⟩ ⟨hB⟩
end
def qx10:Code→Nat→Option (Array Oper)
 | .region id ops _,k=>if id == k then some ops else none
 | .seq a b,k=>match qx10 a k with
  | some o=>some o
  | none=>qx10 b k
 | .cond _ a b,k=>match qx10 a k with
  | some o=>some o
  | none=>qx10 b k
 | .block _ c,k=>qx10 c k
 | .loop c,k=>qx10 c k
 | .scope c,k=>qx10 c k
 | .rangeFunc _ _ a b,k=>match qx10 a k with
  | some o=>some o
  | none=>qx10 b k
 | _,_=>none
def opsOf (f:Func) (k:Nat):Array Oper:=((f.body.bind fun c=>qx10 c k)).getD #[]
end Go.Proofs.YtocdckniokhbbaaGreatDoorW.PrintLast
namespace Go.Proofs.YtocdckniokhbbaaGreatDoorW.PrintLast
def up (b:Nat→Bool) (i:Nat):Nat→Bool:=fun j=>if j=i then true else b j
end Go.Proofs.YtocdckniokhbbaaGreatDoorW.PrintLast
namespace Go.Proofs.YtocdckniokhbbaaGreatDoor.PF
open Go.RowKit YtocdckniokhbbaaGreatDoorW.PrintWords YtocdckniokhbbaaGreatDoorW.PrintLast YtocdckniokhbbaaGreatDoorW.PrintMore
attribute [local go_sem] qk4 qv5
def char_Space.f (a0:Int):Option (Bool):=if a0=32 then(some true)else(if a0=9 then(some true)else(if a0=10 then(some true)else(some (a0 == 13))))
theorem char_Space.calls (a0:Int) (r:Bool) (w:World) (h:char_Space.f a0=some r) :
  Calls Am 44 #[.int .i32 a0] w fun e w'=>e= .returned (Ae r)∧Drawn0 w w':=by
 have H:(if a0=32 then(some true)else(if a0=9 then(some true)else(if a0=10 then(some true)else(some (a0 == 13)))))=some r:=h;clear h;by_cases c2:a0=32
 ·rw [if_pos c2]at H;have c2b0:(a0 == 32)=true:=beq_iff_eq.mpr c2;have c2b1:(a0 !=32)=false:=bne_eq_false_iff_eq.mpr c2;clear c2;obtain rfl:=Az.inj H;go_enter Tryz.func44,Tryz.ntmps44;go_wp2;go_ret;exact⟨zu,zx⟩
 ·rw [if_neg c2]at H;have c2b0:(a0 == 32)=false:=beq_eq_false_iff_ne.mpr c2;have c2b1:(a0 !=32)=true:=bne_iff_ne.mpr c2;by_cases c3:a0=9
  ·rw [if_pos c3]at H;have c3b0:(a0 == 9)=true:=beq_iff_eq.mpr c3;have c3b1:(a0 !=9)=false:=bne_eq_false_iff_eq.mpr c3;clear c3;obtain rfl:=Az.inj H;go_enter Tryz.func44,Tryz.ntmps44;go_wp2;go_ret;exact⟨zu,zx⟩
  ·rw [if_neg c3]at H;have c3b0:(a0 == 9)=false:=beq_eq_false_iff_ne.mpr c3;have c3b1:(a0 !=9)=true:=bne_iff_ne.mpr c3;by_cases c4:a0=10
   ·rw [if_pos c4]at H;have c4b0:(a0 == 10)=true:=beq_iff_eq.mpr c4;have c4b1:(a0 !=10)=false:=bne_eq_false_iff_eq.mpr c4;clear c4;obtain rfl:=Az.inj H;go_enter Tryz.func44,Tryz.ntmps44;go_wp2;go_ret;exact⟨zu,zx⟩
   ·rw [if_neg c4]at H;have c4b0:(a0 == 10)=false:=beq_eq_false_iff_ne.mpr c4;have c4b1:(a0 !=10)=true:=bne_iff_ne.mpr c4;obtain rfl:=Az.inj H;go_enter Tryz.func44,Tryz.ntmps44;go_wp2;go_ret;exact⟨zu,zx⟩
end Go.Proofs.YtocdckniokhbbaaGreatDoor.PF
