import Derived.Test.YtocdckniokhbbaaGreatDoorZrZz
import Derived.Test.YtocdckniokhbbaaGreatDoorZrPFx1
import Derived.Deep.QuietTactic
import Derived.Shelf.Unicode.ValidAny
import Derived.Test.YtocdckniokhbbaaGreatDoorProg
import Derived.Below
import Derived.Deep.Draws
import Derived.Deep.AppendLies
import Derived.Maps.AppendAt
import Derived.OwnWalk
import Derived.Laws.BytesArg
import Derived.Laws.MakeOwn
import Derived.Laws.OwnMore
import Derived.Deep.OwnRows
import Derived.Tactics
import Derived.Lib.ConvBytes
import Derived.Laws.Slices
import Derived.WalkKit
import Derived.KernelRfl
import Derived.RowKit3
import Derived.Deep.LoopGhost
import Derived.BigQuiet
import Derived.WideLaws
import Derived.Deep.DeepCutAuto
import Derived.Deep.CutBlock
import Derived.Deep.RegionHeld3
import Derived.Laws.Rows
import Derived.Lib.AppendStr
import Derived.ArgAppend
import Derived.Laws.IdiomCopy
import Derived.OrdersHeld
import Derived.Laws.BitsLemmas
import Derived.RowKit
import Derived.RegionTactic
import Derived.ChangeAlike
import Derived.BigRegion
import Derived.Great.BuildSlice
import Derived.Deep.WholeRow
import Derived.Test.YtocdckniokhbbaaGreatDoorZrWWords
import Derived.Test.YtocdckniokhbbaaGreatDoorZrWLast
import Derived.Laws.StructEq
import Derived.Test.YtocdckniokhbbaaGreatDoorZrWMore
import Derived.Test.YtocdckniokhbbaaGreatDoorZrPFx10
import Derived.Test.YtocdckniokhbbaaGreatDoorZrPFx11
import Derived.Test.YtocdckniokhbbaaGreatDoorZrPFx12
import Derived.Test.YtocdckniokhbbaaGreatDoorZrPFx13
import Derived.Test.YtocdckniokhbbaaGreatDoorZrPFx14
import Derived.Lib.OthersKept
import Derived.Lib.ValidU
import Derived.Lib.TrimUEq
import Derived.Lib.ValidLaws
import Derived.Test.YtocdckniokhbbaaGreatDoorZrDecG
import Derived.Shelf.GgClosure.StringsTrimFunc
set_option linter.unusedVariables false
set_option linter.unusedSimpArgs false
open Go.Value renaming slice→Ad,bool→Ae,int→Aa,string→Ac
open Go.Proofs.Tryz renaming prog→Am,underlying3→BH,sizeOf3→BZ,zeroValue3→BP,underlying4→BG,sizeOf4→BV,zeroValue4→BN,sizeOf9→BU,zeroValue9→BM
open Go.IntKind renaming i64→Ab
open Nat renaming le_refl→Ag,lt_of_lt_of_le→AV,le_of_lt→Ah
open Go.RowKit.Below renaming refl→Ao
open List renaming drop_eq_getElem_cons→AQ,length_drop→Bf,length_cons→AE,cons_append→AJ,takeWhile_cons→Bj,dropWhile_cons→Bk,append_assoc→A9
open Option renaming some→Az
open Go.Utf8 renaming decode→Bg
open Go.Lib renaming decodeN→Bq,size_eq→A8,decodeL_drop→BJ,decodeL→AU
open Bool renaming and_eq_true→AK
set_option maxHeartbeats 8000000
set_option maxRecDepth 100000
namespace Go.Proofs.YtocdckniokhbbaaGreatDoor.CharA
open Go.RowKit YtocdckniokhbbaaGreatDoorW.PrintWords YtocdckniokhbbaaGreatDoorW.PrintLast YtocdckniokhbbaaGreatDoorW.PrintMore
def char_within.f (a0:Int):List (Int × Int)→Bool
 | []=>false
 | (p,q) :: l=>if a0≥p then(if a0≤q then true else char_within.f a0 l)else char_within.f a0 l
def qs5:List (Int × Int)→List Value
 | []=>[]
 | (p,q) :: l=> .int .i32 p :: .int .i32 q :: qs5 l
theorem char_within.calls (a0:Int) (b:Nat) (L:List (Int × Int)) (hL:L.length<2 ^ 40) (r:Bool) (w:World) (hb:∀ k (hk:k<L.length),w.cell? ⟨b,k*2,none⟩=some (.int .i32 L[k].1)∧w.cell? ⟨b,k*2+1,none⟩=some (.int .i32 L[k].2))
  (hlt:b<w.heap.size) (h:char_within.f a0 L=r) :
  Calls Am 120 #[.int .i32 a0,Ad (some ⟨b,0,none⟩) L.length L.length] w fun e w'=>e= .returned (Ae r)∧Below w.heap.size w w':=by
 have HB:=Aside0.mk hb;have HLT:=Aside0.mk hlt;have H:=Aside0.mk h;clear hb h hlt;go_enter Tryz.func120,Tryz.ntmps120;go_wp2;go_loopg [9] L.length (fun kq v9 w'=>kq≤L.length∧v9= Aa Ab ((L.length - kq:Nat):Int)∧Aside0 (char_within.f a0 (L.drop (L.length - kq))=r)∧Below w.heap.size w w')
 case atStart=>exact⟨Ag _,by simp,by simpa using H,Ao _ _⟩
 case round=>
  obtain⟨hk,rfl,HR,HBl⟩:=hrel;obtain⟨i,hi⟩:∃ i,L.length - gk=i:=⟨_,rfl⟩;rw [hi]at HR ⊢
  cases gk with
  | zero=>
   obtain rfl:L.length=i:=by omega
   have hf:decide ((L.length:Int)<(L.length:Int))=false:=by simp
   have hr:=HR.out;rw [List.drop_length]at hr;simp only [char_within.f]at hr;subst hr;go_wp2;go_ret;exact⟨rfl,HBl⟩
  | succ k1=>
   have hlt:i<L.length:=by omega
   have hd:decide ((i:Int)<(L.length:Int))=true:=by simp;omega
   have hr:=HR.out;rw [AQ hlt]at hr;obtain⟨hc0,hc1⟩:=HB.out i hlt;have hd0:=(HBl.cell (p:=⟨b,i*2,none⟩) HLT.out).trans hc0;have hd1:=(HBl.cell (p:=⟨b,i*2+1,none⟩) HLT.out).trans hc1;clear hc0 hc1;generalize hx:L[i]=x at hr hd0 hd1;obtain⟨p,q⟩:=x;simp only [char_within.f]at hr;have h0:(0:Int)≤(i:Int):=by omega
   have hl1:L.length - k1=i+1:=by omega
   skip
   have fin:∀ cs,Below w.heap.size w (wr.alloc (.cells cs 152)):=fun cs=>qf HBl _;by_cases c1:a0≥p
   ·rw [if_pos c1]at hr;have c1b:decide (p≤a0)=true:=by simpa using c1
    by_cases c2:a0≤q
    ·rw [if_pos c2]at hr;have c2b:decide (a0≤q)=true:=by simpa using c2
     subst hr;go_wp2_with fail
     go_ret;exact⟨rfl,fin _⟩
    ·rw [if_neg c2]at hr;have c2b:decide (a0≤q)=false:=by simpa using c2
     have hr':=Aside0.mk hr;go_wp2_with fail
     go_roundg k1
     case measure=>omega
     case rel=>exact⟨by omega,by rw [hl1];simp,by rw [hl1];exact hr',fin _⟩
   ·rw [if_neg c1]at hr;have c1b:decide (p≤a0)=false:=by simpa using c1
    have hr':=Aside0.mk hr;go_wp2_with fail
    go_roundg k1
    case measure=>omega
    case rel=>exact⟨by omega,by rw [hl1];simp,by rw [hl1];exact hr',fin _⟩
theorem qo8:∀ (L:List (Int × Int)) (k:Nat) (hk:k<L.length),(qs5 L)[k*2]?=some (.int .i32 L[k].1)∧(qs5 L)[k*2+1]?=some (.int .i32 L[k].2)
 | (p,q) :: L,0,_=>⟨rfl,rfl⟩
 | (p,q) :: L,k+1,hk=>by
  have h:=qo8 L k (by simpa using hk);rw [Nat.add_mul];simpa [qs5]using h
theorem qr7 {w:World} {b:Nat} {t:TypeId} {L:List (Int × Int)} {cs:Array Value} (h:w.heap[b]?=some (.cells cs t (0,0))) (hL:cs=(qs5 L).toArray) :
  ∀ k (hk:k<L.length),w.cell? ⟨b,k*2,none⟩=some (.int .i32 L[k].1)∧w.cell? ⟨b,k*2+1,none⟩=some (.int .i32 L[k].2):=by
 subst hL;intro k hk;rw [qj h,qj h];simpa using qo8 L k hk
def isL:List (Int × Int):=[(9,10),(13,13),(32,55295),(57344,65533),(65536,1114111)]
def char_Is.f (a0:Int):Option Bool:=some (char_within.f a0 isL)
theorem char_Is.calls (a0:Int) (r:Bool) (w:World) (h:char_Is.f a0=some r) :
  Calls Am 85 #[.int .i32 a0] w fun e w'=>e= .returned (Ae r)∧Below w.heap.size w w':=by
 have H:=Aside0.mk (Az.inj h);clear h;have hr0:=Ao w.heap.size w;go_enter Tryz.func85,Tryz.ntmps85;go_wp2_with fail
 have hk:(w.alloc (.cells #[.int .i32 9,.int .i32 10,.int .i32 13,.int .i32 13,.int .i32 32,.int .i32 55295,.int .i32 57344,.int .i32 65533,.int .i32 65536,.int .i32 1114111] 153)).heap[w.heap.size]?=_:=qm w _;refine(char_within.calls a0 w.heap.size isL (by decide) r _ ?_ ?_ H.out).mono ?_
 ·exact qr7 hk rfl
 ·simp
 rintro e w1 ⟨rfl,hb1⟩;go_wp2_with fail
 go_ret;exact⟨rfl,((qf hr0 _).trans (hb1.mono (by simp)))⟩
def qq16:List (Int × Int):=[(0xc0,0xd6),(0xd8,0xf6),(0xf8,0x2ff),(0x370,0x37d),(0x37f,0x1fff),(0x200c,0x200d),(0x2070,0x218f),(0x2c00,0x2fef),(0x3001,0xd7ff),(0xf900,0xfdcf),(0xfdf0,0xfffd),(0x10000,0xeffff)]
def startC:Array Value:= #[.int .i32 192,.int .i32 214,.int .i32 216,.int .i32 246,.int .i32 248,.int .i32 767,.int .i32 880,.int .i32 893,.int .i32 895,.int .i32 8191,.int .i32 8204,.int .i32 8205,.int .i32 8304,.int .i32 8591,.int .i32 11264,.int .i32 12271,.int .i32 12289,.int .i32 55295,.int .i32 63744,.int .i32 64975,.int .i32 65008,.int .i32 65533,.int .i32 65536,.int .i32 983039]
theorem qv17:startC.all (·.oneCell')=true:=by kernel_rfl
def char_Start.f (a0:Int):Option Bool:=if a0<128 then some (decide (65≤a0) && decide (a0≤90) || decide (97≤a0) && decide (a0≤122) || a0 == 95)else some (char_within.f a0 qq16)
theorem char_Start.low (a0:Int) (r:Bool) (w:World) (c0:a0<128) (h:(decide (65≤a0) && decide (a0≤90) || decide (97≤a0) && decide (a0≤122) || a0 == 95)=r) :
  Calls Am 114 #[.int .i32 a0] w fun e w'=>e= .returned (Ae r)∧Below w.heap.size w w':=by
 have hr0:=Ao w.heap.size w;have c0b:decide (a0<128)=true:=by simpa using c0
 subst h;go_enter Tryz.func114,Tryz.ntmps114;by_cases c1:65≤a0<;>by_cases c2:a0≤90<;>by_cases c3:97≤a0<;>by_cases c4:a0≤122<;>(try(exfalso;omega))<;>
 ·(try rw [eq_true c1]);(try rw [eq_false c1]);(try rw [eq_true c2]);(try rw [eq_false c2]);(try rw [eq_true c3]);(try rw [eq_false c3]);(try rw [eq_true c4]);(try rw [eq_false c4]);go_wp2_with fail
  go_ret;exact⟨by first | rfl | (simp;done) | (simp [c1,c2,c3,c4];done) | (simp;omega),hr0⟩
theorem char_Start.high (a0:Int) (r:Bool) (w:World) (c0:¬a0<128) (h:char_within.f a0 qq16=r) :
  Calls Am 114 #[.int .i32 a0] w fun e w'=>e= .returned (Ae r)∧Below w.heap.size w w':=by
 have hr0:=Ao w.heap.size w;have c0b:decide (a0<128)=false:=by simpa using c0
 have H:=Aside0.mk h;clear h;go_enter Tryz.func114,Tryz.ntmps114;go_wp2_with ((with_reducible refine Mine.gate_op (.store 172 (.tmp 3) (.tmp 36)) rfl ?_);refine Mine.store_new rfl 172 (.tmp 3) (.tmp 36) rfl rfl startC rfl rfl 172 _ zr rfl qv17 ?_)
 have hk:=qm w (.cells startC 172);refine(char_within.calls a0 w.heap.size qq16 (by decide) r _ ?_ ?_ H.out).mono ?_
 ·exact qr7 hk rfl
 ·simp
 rintro e w1 ⟨rfl,hb1⟩;go_wp2_with fail
 go_ret;exact⟨rfl,((qf hr0 _).trans (hb1.mono (by simp)))⟩
theorem char_Start.calls (a0:Int) (r:Bool) (w:World) (h:char_Start.f a0=some r) :
  Calls Am 114 #[.int .i32 a0] w fun e w'=>e= .returned (Ae r)∧Below w.heap.size w w':=by
 unfold char_Start.f at h;by_cases c0:a0<128
 ·rw [if_pos c0]at h;exact char_Start.low a0 r w c0 (Az.inj h)
 ·rw [if_neg c0]at h;exact char_Start.high a0 r w c0 (Az.inj h)
def isB (a:Int):Bool:=char_within.f a isL
def qf11 (a:Int):Bool:=if a<128 then(decide (65≤a) && decide (a≤90) || decide (97≤a) && decide (a≤122) || a == 95)else char_within.f a qq16
def qr24:List (Int × Int):=[(45,46),(48,57),(0xb7,0xb7),(0x300,0x36f),(0x203f,0x2040)]
def qv8 (a:Int):Bool:=qf11 a || char_within.f a qr24
theorem qz25 (a0:Int) (w:World):Calls Am 85 #[.int .i32 a0] w fun e w'=>e= .returned (Ae (isB a0))∧Below w.heap.size w w':=char_Is.calls a0 _ w rfl
theorem ql9 (a0:Int) (w:World):Calls Am 114 #[.int .i32 a0] w fun e w'=>e= .returned (Ae (qf11 a0))∧Below w.heap.size w w':=char_Start.calls a0 _ w (by unfold char_Start.f qf11;split<;>rfl)
theorem qx7 (a0:Int) (w:World):Calls Am 115 #[.int .i32 a0] w fun e w'=>e= .returned (Ae (qv8 a0))∧Below w.heap.size w w':=by
 have hr0:=Ao w.heap.size w;obtain⟨s,hs⟩:∃ s,qf11 a0=s:=⟨_,rfl⟩;obtain⟨r,hr⟩:∃ r,char_within.f a0 qr24=r:=⟨_,rfl⟩;have hp:qv8 a0=(s || r):=by unfold qv8;rw [hs,hr]
 rw [hp];have S:=ql9 a0;rw [hs]at S;clear hp hs;have H:=Aside0.mk hr;clear hr
 cases s with
 | true=>
  go_enter Tryz.func115,Tryz.ntmps115;go_wp2_with fail
  refine(S _).mono ?_;rintro e w1 ⟨rfl,hb1⟩;go_wp2_with fail
  go_ret;exact⟨by simp,((qf hr0 _).trans (hb1.mono (by simp)))⟩
 | false=>
  go_enter Tryz.func115,Tryz.ntmps115;go_wp2_with fail
  refine(S _).mono ?_;rintro e w1 ⟨rfl,hb1⟩;have hk:w1.heap[w.heap.size]?=some (.cells #[.int .i32 45,.int .i32 46,.int .i32 48,.int .i32 57,.int .i32 183,.int .i32 183,.int .i32 768,.int .i32 879,.int .i32 8255,.int .i32 8256] 153):=qk (qm w _) hb1;have hB:=(qf hr0 (.cells #[.int .i32 45,.int .i32 46,.int .i32 48,.int .i32 57,.int .i32 183,.int .i32 183,.int .i32 768,.int .i32 879,.int .i32 8255,.int .i32 8256] 153)).trans (hb1.mono (by simp));have hsz:w.heap.size<w1.heap.size:=AV (by simp) hb1.size;have HB:=Aside0.mk hB;have HS:=Aside0.mk hsz;have HK:=Aside0.mk (qr7 hk (L:=qr24) rfl);clear hB hsz hk hb1;go_wp2_with fail
  refine(char_within.calls a0 w.heap.size qr24 (by decide) r _ HK.out HS.out H.out).mono ?_;rintro e w2 ⟨rfl,hb2⟩;go_wp2_with fail
  go_ret;exact⟨by simp,HB.out.trans (hb2.mono (Ah HS.out))⟩
end Go.Proofs.YtocdckniokhbbaaGreatDoor.CharA
/-
 DERIVED: THE SHELF's CONTRACTS AT THIS DUMP, IN PLAIN WORDS (tools/lay-plain.mjs out of 'TryzvShelf.lean', which tools/lay-shelf.mjs wrote): THE SAME DECLARATIONS UNDER THE SAME NAMES: 'import', 'namespace', 'open', 'def', 'theorem' AND NOTHING ELSE: no command of the shelf's: FOR A HAND-IN. Each laying: the table of numbers ('.._ren') and one theorem, a field a fact of the dump's own or the kernel's comparison; each contract: ONE APPLICATION.
-/
namespace Go.Proofs
open Go.Shelf
def Tryz.lays196_ren:Go.Shelf.Ren:=⟨fun | 196=>84 | 259=>119 | n=>n,fun | 9=>9 | 4=>4 | 3=>3 | 5=>5 | 12=>12 | 119=>146 | 0=>0 | 46=>150 | 139=>149 | 138=>148 | 53=>173 | n=>n,fun | 3=>0 | 4=>1 | n=>n⟩
theorem Tryz.lays196:Go.Proofs.Lays.n196 Am Tryz.lays196_ren:={
 mixed:=by kernel_rfl
 f196:=Tryz.func84.trans (congrArg some zr)
 f259:=Tryz.func119.trans (congrArg some zr)
 t0:=Tryz.underlying0
 a0:=Tryz.isAgg0
 z0:=Tryz.sizeOf0
 v0:=Tryz.zeroValue0
 t3:=BH
 a3:=Tryz.isAgg3
 z3:=BZ
 v3:=BP
 t4:=BG
 a4:=Tryz.isAgg4
 z4:=BV
 v4:=BN
 t5:=Tryz.underlying5
 a5:=Tryz.isAgg5
 z5:=Tryz.sizeOf5
 v5:=Tryz.zeroValue5
 t9:=Tryz.underlying9
 a9:=Tryz.isAgg9
 z9:=BU
 v9:=BM
 t12:=Tryz.underlying12
 a12:=Tryz.isAgg12
 z12:=Tryz.sizeOf12
 v12:=Tryz.zeroValue12
 t46:=Tryz.underlying150
 a46:=Tryz.isAgg150
 z46:=Tryz.sizeOf150
 v46:=Tryz.zeroValue150
 t53:=Tryz.underlying173
 a53:=Tryz.isAgg173
 z53:=Tryz.sizeOf173
 v53:=Tryz.zeroValue173
 t119:=Tryz.underlying146
 a119:=Tryz.isAgg146
 z119:=Tryz.sizeOf146
 t138:=Tryz.underlying148
 a138:=Tryz.isAgg148
 z138:=Tryz.sizeOf148
 v138:=Tryz.zeroValue148
 t139:=Tryz.underlying149
 a139:=Tryz.isAgg149
 z139:=Tryz.sizeOf149
 v139:=Tryz.zeroValue149
 g3:=by kernel_rfl
 g4:=zr}
open Go.RowKit Go.Lib in
theorem Tryz.utf8_ValidString (s:ByteArray) (w:World) (hs:s.size≤9223372036854775807) (hT:Lib.Utf8Tabs 0 1 w) :
  Calls Am 84 #[Ac s] w fun e w'=>e= .returned (Ae (Lib.validD s.data.toList))∧Below w.heap.size w w':=Any.utf8_ValidString Tryz.lays196 s w hs hT
end Go.Proofs
namespace Go.Proofs.YtocdckniokhbbaaGreatDoor.CharB
open Go.RowKit YtocdckniokhbbaaGreatDoorW.PrintWords YtocdckniokhbbaaGreatDoorW.PrintLast YtocdckniokhbbaaGreatDoorW.PrintMore CharA
def qr13 (a:Int):Bool:=a == 32 || a == 9 || a == 10 || a == 13
theorem qp15 (a0:Int) (w:World):Calls Am 44 #[.int .i32 a0] w fun e w'=>e= .returned (Ae (qr13 a0))∧Drawn0 w w':=
 PF.char_Space.calls a0 _ w (by unfold PF.char_Space.f qr13;by_cases h1:a0=32<;>by_cases h2:a0=9<;>by_cases h3:a0=10<;>simp [h1,h2,h3])
def qw26 (p:Int→Bool) (s:ByteArray):Nat→Nat→Bool
 | 0,_=>true
 | n+1,pos=>if pos<s.size then(if p (Bg s pos).1 then qw26 p s n (pos+(Bg s pos).2)else false)else true
theorem qp4 (s:ByteArray) (pos:Nat) (h:pos<s.size):1≤(Bg s pos).2:=by
 by_cases ha:(s[pos]'h).toNat<128
 ·rw [decode_ascii s pos h ha];exact Ag _
 ·exact(decode_high s pos h (by omega)).2
theorem qv26 (p:Int→Bool) (s:ByteArray) (b pos:Nat) (h:¬ pos<s.size):qw26 p s b pos=true:=by
 cases b with
 | zero=>rfl
 | succ b=>simp [qw26,h]
theorem below_drewN {B:Nat} {w w':World} (h:Below B w w') (m:Nat):Below B w (w'.drewN m):=⟨h.1,h.2,h.3,h.4,h.5⟩
def qp3 (s:ByteArray):Bool:=Lib.validD s.data.toList && qw26 isB s s.size 0
theorem qp7 (s:ByteArray) (w:World) (hs:s.size≤9223372036854775807) (hT:Lib.Utf8Tabs 0 1 w):Calls Am 42 #[Ac s] w fun e w'=>e= .returned (Ae (qp3 s))∧Below w.heap.size w w':=by
 have cV:=Tryz.utf8_ValidString s w hs hT;clear hT;obtain⟨r,hr⟩:∃ r,qw26 isB s s.size 0=r:=⟨_,rfl⟩;unfold qp3;rw [hr];have H:=Aside0.mk hr;clear hr;have hr0:=Ao w.heap.size w;generalize Lib.validD s.data.toList=V at cV ⊢
 cases V with
 | false=>
  go_enter Tryz.func42,Tryz.ntmps42;go_wp2_with (go_at_call 84;refine cV.mono ?_;rintro e w1 ⟨rfl,hb⟩)
  go_ret;exact⟨rfl,hb⟩
 | true=>
  go_enter Tryz.func42,Tryz.ntmps42;go_wp2_with (go_at_call 84;refine cV.mono ?_;rintro e w1 ⟨rfl,hb⟩)
  have HZ:=Aside0.mk hb.size;have HW:=Aside0.mk (qf hb (.stringIter s 0));clear hb;clear cV;go_loopg [] s.size (fun kq w'=>∃ pos,Aside0 (qw26 isB s kq pos=r)∧Aside0 (kq≤s.size)∧Aside0 (s.size≤pos+kq)∧Aside0 (w'.heap[w1.heap.size]?=some (.stringIter s pos))∧Aside0 (Below w.heap.size w w'))
  case atStart=>exact⟨0,H,⟨by omega⟩,⟨by omega⟩,⟨by rw [World.iter_heap]⟩,HW⟩
  case round=>
   obtain⟨pos,HA,HK,HP,HI,HB⟩:=hrel;by_cases hp:pos<s.size
   ·cases gk with
    | zero=>have:=HP.out;omega
    | succ k1=>
     have hnx:∀ ty,(Instr.next (.pointer (some ⟨w1.heap.size,0,none⟩)) true ty).run Am wr=_:=fun ty=>Lib.run_next_any_at wr w1.heap.size s pos ty HI.out hp;have ha:=HA.out;have hwd:=qp4 s pos hp;simp only [qw26,if_pos hp]at ha;generalize (Bg s pos).1=q at hnx ha;generalize hd2:(Bg s pos).2=q2 at hnx ha hwd;have hI:(wr.iterAt w1.heap.size s (pos+q2)).heap[w1.heap.size]?=some (.stringIter s (pos+q2)):=Lib.iterAt_heap wr _ s pos _ HI.out;have hB:Below w.heap.size w (wr.iterAt w1.heap.size s (pos+q2)):=Lib.below_iterAt HB.out HZ.out s _;have S:=qz25 (q:Int)
     cases hs:isB q with
     | false=>
      rw [hs]at ha S;simp at ha;subst ha;go_wp2_with (go_at_call 85;refine(S _).mono ?_;rintro e w' ⟨rfl,hb1⟩)
      go_ret;exact⟨rfl,hB.trans (hb1.mono hB.size)⟩
     | true=>
      rw [hs]at ha S;simp at ha;have ha':=Aside0.mk ha;have hp':Aside0 (s.size≤pos+q2+k1):=⟨zv⟩;go_wp2_with (go_at_call 85;refine(S _).mono ?_;rintro e w' ⟨rfl,hb1⟩)
      go_roundg k1
      case measure=>have:=HK.out;omega
      case rel=>exact⟨pos+q2,ha',⟨by have:=HK.out;omega⟩,hp',⟨qk hI hb1⟩,⟨hB.trans (hb1.mono hB.size)⟩⟩
   ·have hnx:∀ ty,(Instr.next (.pointer (some ⟨w1.heap.size,0,none⟩)) true ty).run Am wr=_:=fun ty=>Lib.run_next_end_at wr w1.heap.size s pos ty HI.out hp;have ha:=HA.out;rw [qv26 _ _ _ _ hp]at ha;subst ha;go_wp2;go_ret;exact⟨rfl,HB.out⟩
def qy15 (s:ByteArray):Nat→Nat→Bool
 | 0,_=>true
 | n+1,pos=>if pos<s.size then(if pos=0∧qf11 (Bg s pos).1=false then false else if qv8 (Bg s pos).1 then qy15 s n (pos+(Bg s pos).2)else false)else true
theorem qh21 (s:ByteArray) (b pos:Nat) (h:¬ pos<s.size):qy15 s b pos=true:=by
 cases b with
 | zero=>rfl
 | succ b=>simp [qy15,h]
def qc8 (s:ByteArray):Bool:=if s.size<1 then false else if 32<s.size then false else qp3 s && qy15 s s.size 0
theorem qt11 (s:ByteArray) (w:World) (hT:Lib.Utf8Tabs 0 1 w):Calls Am 66 #[Ac s] w fun e w'=>e= .returned (Ae (qc8 s))∧Below w.heap.size w w':=by
 have hr0:=Ao w.heap.size w;unfold qc8;by_cases c1:s.size<1
 ·rw [if_pos c1];have c1b:decide ((s.size:Int)<1)=true:=by simp;omega
  go_enter Tryz.func66,Tryz.ntmps66;go_wp2_with fail
  go_ret;exact⟨rfl,hr0⟩
 rw [if_neg c1];have c1b:decide ((s.size:Int)<1)=false:=by simp;omega
 by_cases c2:32<s.size
 ·rw [if_pos c2];have c2b:decide ((32:Int)<(s.size:Int))=true:=by simp;omega
  go_enter Tryz.func66,Tryz.ntmps66;go_wp2_with fail
  go_ret;exact⟨rfl,hr0⟩
 rw [if_neg c2];have c2b:decide ((32:Int)<(s.size:Int))=false:=by simp;omega
 have cV:=qp7 s w (by omega) hT;clear hT;obtain⟨r,hr⟩:∃ r,qy15 s s.size 0=r:=⟨_,rfl⟩;rw [hr];have H:=Aside0.mk hr;clear hr;generalize qp3 s=V at cV ⊢;have CS:=Aside0.mk c2;clear c1 c2
 cases V with
 | false=>
  go_enter Tryz.func66,Tryz.ntmps66;go_wp2_with (go_at_call 42;refine cV.mono ?_;rintro e w1 ⟨rfl,hb⟩)
  go_ret;exact⟨rfl,hb⟩
 | true=>
  go_enter Tryz.func66,Tryz.ntmps66;go_wp2_with (go_at_call 42;refine cV.mono ?_;rintro e w1 ⟨rfl,hb⟩)
  have HZ:=Aside0.mk hb.size;have HW:=Aside0.mk (qf hb (.stringIter s 0));clear hb;clear cV;go_loopg [] s.size (fun kq w'=>∃ pos,Aside0 (qy15 s kq pos=r)∧Aside0 (kq≤s.size)∧Aside0 (s.size≤pos+kq)∧Aside0 (w'.heap[w1.heap.size]?=some (.stringIter s pos))∧Aside0 (Below w.heap.size w w'))
  case atStart=>exact⟨0,H,⟨by omega⟩,⟨by omega⟩,⟨by rw [World.iter_heap]⟩,HW⟩
  case round=>
   obtain⟨pos,HA,HK,HP,HI,HB⟩:=hrel;by_cases hp:pos<s.size
   ·cases gk with
    | zero=>have:=HP.out;omega
    | succ k1=>
     have hnx:∀ ty,(Instr.next (.pointer (some ⟨w1.heap.size,0,none⟩)) true ty).run Am wr=_:=fun ty=>Lib.run_next_any_at wr w1.heap.size s pos ty HI.out hp;have ha:=HA.out;have hwd:=qp4 s pos hp;simp only [qy15,if_pos hp]at ha;generalize (Bg s pos).1=q at hnx ha;generalize hd2:(Bg s pos).2=q2 at hnx ha hwd;have hI:(wr.iterAt w1.heap.size s (pos+q2)).heap[w1.heap.size]?=some (.stringIter s (pos+q2)):=Lib.iterAt_heap wr _ s pos _ HI.out;have hB:Below w.heap.size w (wr.iterAt w1.heap.size s (pos+q2)):=Lib.below_iterAt HB.out HZ.out s _;have hp':Aside0 (s.size≤pos+q2+k1):=⟨zv⟩;have S1:=ql9 (q:Int);have S2:=qx7 (q:Int);have HI':=Aside0.mk hI;have HB':=Aside0.mk hB;clear hI hB;by_cases h0:pos=0
     ·have h0b:((pos:Int) == 0)=true:=by simp [h0]
      cases hs:qf11 q with
      | false=>
       rw [hs]at ha S1;rw [if_pos ⟨h0,rfl⟩]at ha;subst ha;clear h0;go_wp2_with (go_at_call 114;refine(S1 _).mono ?_;rintro e w2 ⟨rfl,hb1⟩)
       go_ret;exact⟨rfl,HB'.out.trans (hb1.mono HB'.out.size)⟩
      | true=>
       rw [hs]at ha S1;rw [if_neg (by simp)]at ha;clear h0
       cases hs2:qv8 q with
       | false=>
        rw [hs2]at ha S2;simp at ha;subst ha;go_wp2_with (first | (go_at_call 114;refine(S1 _).mono ?_;rintro e w2 ⟨rfl,hb1⟩) | (go_at_call 115;refine(S2 _).mono ?_;rintro e w3 ⟨rfl,hb2⟩))
        go_ret;exact⟨rfl,(HB'.out.trans (hb1.mono HB'.out.size)).trans (hb2.mono (HB'.out.trans (hb1.mono HB'.out.size)).size)⟩
       | true=>
        rw [hs2]at ha S2;simp at ha;have ha':=Aside0.mk ha;go_wp2_with (first | (go_at_call 114;refine(S1 _).mono ?_;rintro e w2 ⟨rfl,hb1⟩) | (go_at_call 115;refine(S2 _).mono ?_;rintro e w3 ⟨rfl,hb2⟩))
        go_roundg k1
        case measure=>have:=HK.out;omega
        case rel=>exact⟨pos+q2,ha',⟨by have:=HK.out;omega⟩,hp',⟨qk (qk HI'.out hb1) hb2⟩,⟨(HB'.out.trans (hb1.mono HB'.out.size)).trans (hb2.mono (HB'.out.trans (hb1.mono HB'.out.size)).size)⟩⟩
     ·have h0b:((pos:Int) == 0)=false:=by simp [h0]
      rw [if_neg (by simp [h0])]at ha
      cases hs2:qv8 q with
      | false=>
       rw [hs2]at ha S2;simp at ha;subst ha;go_wp2_with (go_at_call 115;refine(S2 _).mono ?_;rintro e w3 ⟨rfl,hb2⟩)
       go_ret;exact⟨rfl,HB'.out.trans (hb2.mono HB'.out.size)⟩
      | true=>
       rw [hs2]at ha S2;simp at ha;have ha':=Aside0.mk ha;go_wp2_with (go_at_call 115;refine(S2 _).mono ?_;rintro e w3 ⟨rfl,hb2⟩)
       go_roundg k1
       case measure=>have:=HK.out;omega
       case rel=>exact⟨pos+q2,ha',⟨by have:=HK.out;omega⟩,hp',⟨qk HI'.out hb2⟩,⟨HB'.out.trans (hb2.mono HB'.out.size)⟩⟩
   ·have hnx:∀ ty,(Instr.next (.pointer (some ⟨w1.heap.size,0,none⟩)) true ty).run Am wr=_:=fun ty=>Lib.run_next_end_at wr w1.heap.size s pos ty HI.out hp;have ha:=HA.out;rw [qh21 _ _ _ hp]at ha;subst ha;go_wp2;go_ret;exact⟨rfl,HB.out⟩
end Go.Proofs.YtocdckniokhbbaaGreatDoor.CharB
namespace Go.Proofs.YtocdckniokhbbaaGreatDoor.CharC
end Go.Proofs.YtocdckniokhbbaaGreatDoor.CharC
namespace Go.Proofs.YtocdckniokhbbaaGreatDoor.CharD
open Go.RowKit YtocdckniokhbbaaGreatDoorW.PrintWords YtocdckniokhbbaaGreatDoorW.PrintLast YtocdckniokhbbaaGreatDoorW.PrintMore CharA CharB CharC PF
def qx2 (s:ByteArray):Nat→Nat→Option (List Int)
 | 0,_=>some []
 | n+1,pos=>if pos<s.size then(if Bg s pos=(65533,1)then none else(qx2 s n (pos+(Bg s pos).2)).map (((Bg s pos).1:Int) :: ·))else some []
theorem ql8 (s:ByteArray) (n pos:Nat) (h:¬ pos<s.size):qx2 s n pos=some []:=by
 cases n with
 | zero=>rfl
 | succ n=>simp [qx2,h]
theorem dw (n b0 b1 b2 b3:Nat) (h:0<n):(Bq n b0 b1 b2 b3).2≤n:=by
 unfold Bq
 repeat' split
 all_goals (simp;try omega)
theorem qn16 (s:ByteArray) (pos:Nat) (h:pos<s.size):pos+(Bg s pos).2≤s.size:=by
 rw [Lib.decode_N];have:=dw (s.data.toList.length - pos) (s.data.toList.getD pos 0).toNat (s.data.toList.getD (pos+1) 0).toNat (s.data.toList.getD (pos+2) 0).toNat (s.data.toList.getD (pos+3) 0).toNat za5;rw [← A8]at this ⊢;omega
theorem qf15 (s:ByteArray):∀ (n pos:Nat),s.size≤pos+n→Lib.validD (s.data.toList.drop pos)=(qx2 s n pos).isSome:=by
 intro n
 induction n with
 | zero=>
  intro pos h;rw [List.drop_eq_nil_of_le za5];rfl
 | succ n ih=>
  intro pos h;by_cases hlt:pos<s.size
  ·rw [Lib.validD_step _ (by intro e;have:=congrArg List.length e;rw [Bf,← A8]at this;simp at this;omega),BJ];simp only [qx2,if_pos hlt];have hw:=qp4 s pos hlt;by_cases hd:Bg s pos=(65533,1)
   ·rw [if_pos hd,if_pos (by rw [hd];exact⟨rfl,rfl⟩)];rfl
   ·rw [if_neg hd,if_neg (by intro e;exact hd (Prod.ext e.1 e.2)),List.drop_drop,ih _ (by omega)]
    cases qx2 s n (pos+(Bg s pos).2)<;>rfl
  ·rw [ql8 _ _ _ hlt,List.drop_eq_nil_of_le za5];rfl
theorem qc19 (p:Int→Bool) (s:ByteArray):∀ (n pos:Nat) (l:List Int),qx2 s n pos=some l→qw26 p s n pos=l.all p:=by
 intro n
 induction n with
 | zero=>intro pos l h;simp [qx2]at h;subst h;rfl
 | succ n ih=>
  intro pos l h;simp only [qx2]at h;simp only [qw26]
  split at h
  ·rename_i hlt
   rw [if_pos hlt]
   split at h
   ·cases h
   ·obtain⟨l',hl',rfl⟩:=Option.map_eq_some_iff.1 h;rw [ih _ _ hl',List.all_cons]
    cases p ((Bg s pos).1:Int)<;>rfl
  ·rename_i hlt
   rw [if_neg hlt]
   cases h
   rfl
theorem qs18 (s:ByteArray) (pos:Nat) (h:pos<s.size) (ha:128≤(s[pos]'h).toNat):qr13 ((Bg s pos).1:Int)=false:=by
 have:=(decode_high s pos h ha).1;unfold qr13;generalize (Bg s pos).1=q at *;simp;omega
end Go.Proofs.YtocdckniokhbbaaGreatDoor.CharD
namespace Go.Proofs.YtocdckniokhbbaaGreatDoor.CharF
open Go.RowKit YtocdckniokhbbaaGreatDoorW.PrintWords YtocdckniokhbbaaGreatDoorW.PrintLast YtocdckniokhbbaaGreatDoorW.PrintMore CharA CharB CharC CharD
theorem qn17 (a b:ByteArray):(a ++ b).data.toList=a.data.toList ++ b.data.toList:=by simp
theorem qs26 (a b:ByteArray):(a ++ b).size=a.size+b.size:=by simp
theorem qu14 (a b:ByteArray) (p:Nat):Bg (a ++ b) (a.size+p)=Bg b p:=by
 rw [← BJ,← BJ,qn17]
 congr 1
 rw [A8,List.drop_append];simp
theorem qi16 (a b:ByteArray):∀ n p,qx2 (a ++ b) n (a.size+p)=qx2 b n p:=by
 intro n
 induction n with
 | zero=>intro p;rfl
 | succ n ih=>
  intro p;simp only [qx2];rw [qu14,qs26,Nat.add_assoc,ih];by_cases h:p<b.size
  ·rw [if_pos h,if_pos (by omega)]
  ·rw [if_neg h,if_neg (by omega)]
theorem qv18 (s:ByteArray):∀ n m p,s.size≤p+n→qx2 s (n+m) p=qx2 s n p:=by
 intro n
 induction n with
 | zero=>
  intro m p h;rw [ql8 _ _ _ (by omega),ql8 _ _ _ (by omega)]
 | succ n ih=>
  intro m p h;rw [show n+1+m=(n+m)+1 by omega];simp only [qx2];by_cases hp:p<s.size
  ·have:=qp4 s p hp;rw [ih m _ (by omega)]
  ·rw [if_neg hp,if_neg hp]
theorem qo6 (s:ByteArray):qp3 s=(match qx2 s s.size 0 with | none=>false | some l=>l.all isB):=by
 unfold qp3;have hv:=qf15 s s.size 0 (by omega);rw [List.drop_zero]at hv;rw [hv]
 cases hc:qx2 s s.size 0 with
 | none=>rfl
 | some l=>rw [qc19 isB s _ _ _ hc];simp
end Go.Proofs.YtocdckniokhbbaaGreatDoor.CharF
namespace Go.Proofs.YtocdckniokhbbaaGreatDoor.SpanA
open Go.RowKit YtocdckniokhbbaaGreatDoorW.PrintWords YtocdckniokhbbaaGreatDoorW.PrintLast YtocdckniokhbbaaGreatDoorW.PrintMore CharA CharB CharC CharD CharF PF
def ba (l:List UInt8):ByteArray:=⟨l.toArray⟩
theorem qa1 (l:List UInt8):(ba l).data.toList=l:=rfl
theorem qm8 (s:ByteArray):ba s.data.toList=s:=rfl
theorem qj1 (l:List UInt8):(ba l).size=l.length:=by show l.toArray.size=_;simp
theorem qb2 {a b:ByteArray} (h:a.data.toList=b.data.toList):a=b:=by rw [← qm8 a,← qm8 b,h]
theorem qx22 (a b:List UInt8):ba a ++ ba b=ba (a ++ b):=qb2 (by rw [qn17];rfl)
theorem qk1 (s:ByteArray) (i j:Nat):(s.extract i j).data.toList=(s.data.toList.drop i).take (j - i):=by
 rw [ByteArray.data_extract,Array.toList_extract]
end Go.Proofs.YtocdckniokhbbaaGreatDoor.SpanA
namespace Go.Proofs.YtocdckniokhbbaaGreatDoor.FigA
open Go.RowKit YtocdckniokhbbaaGreatDoorW.PrintWords YtocdckniokhbbaaGreatDoorW.PrintLast YtocdckniokhbbaaGreatDoorW.PrintMore DecA DecE DecF SpanA
def qr1 (c:UInt8):Bool:=decide (48≤c.toNat) && decide (c.toNat≤57)
theorem qo3 (c:UInt8):qr1 c=true↔48≤c.toNat∧c.toNat≤57:=by unfold qr1;simp
def qg13 (l:List UInt8):Int:=l.foldl (fun a c=>10*a+((c.toNat:Int) - 48)) 0
theorem qk13 (l:List UInt8) (c:UInt8):qg13 (l ++ [c])=10*qg13 l+((c.toNat:Int) - 48):=by unfold qg13;simp
theorem qc22 (l:List UInt8):∀ a:Int,l.foldl (fun a c=>10*a+((c.toNat:Int) - 48)) a=10 ^ l.length*a+qg13 l:=by
 unfold qg13
 induction l with
 | nil=>intro a;simp
 | cons c l ih=>
  intro a;simp only [List.foldl_cons,AE];rw [ih,ih (10*0+_),Int.pow_succ]
  grind
theorem qk23 (a b:List UInt8):qg13 (a ++ b)=10 ^ b.length*qg13 a+qg13 b:=by
 have:=qc22 b (qg13 a);unfold qg13 at this ⊢;rw [List.foldl_append];exact this
theorem qg15:∀ (n:Nat) (l:List UInt8),l.length=n→l.all qr1=true→0≤qg13 l:=by
 intro n
 induction n with
 | zero=>intro l h _;rw [List.length_eq_zero_iff.1 h];decide
 | succ n ih=>
  intro l h ha;obtain⟨a,c,rfl⟩:∃ a c,l=a ++ [c]:=⟨l.dropLast,l.getLast (by intro e;rw [e]at h;simp at h),(List.dropLast_concat_getLast _).symm⟩;rw [List.all_append,AK]at ha;have h1:=ih a (by simp at h;exact h) ha.1;have h2:=ha.2;simp at h2;rw [qo3]at h2;rw [qk13];omega
def litP (s:List UInt8):Option (List UInt8 × List UInt8):=
 let a:=s.takeWhile qr1
 let r:=s.dropWhile qr1
 if r= []then(if a= []then none else some (a,[]))
 else if r.head?=some 46 then(if r.tail.all qr1=true∧(a≠ []∨r.tail≠ [])then some (a,r.tail)else none)else none
def qs16 (b:List UInt8):List UInt8:=(b ++ List.replicate 6 48).take 6
def qf8 (s:List UInt8):(Int × Int) × Bool:=match litP s with | some (a,b)=>(mk false (qg13 (a ++ qs16 b)),true) | none=>((0,0),false)
def spB (c:UInt8):Bool:=c == 32 || c == 9 || c == 10 || c == 13
theorem qq4 {p:UInt8→Bool}:∀ (a b:List UInt8),a.all p=true→(b.head?.map p≠some true)→(a ++ b).takeWhile p=a∧(a ++ b).dropWhile p=b
 | [],[],_,_=>⟨rfl,rfl⟩
 | [],c :: b,_,h=>by
  have hc:p c=false:=by cases hp:p c with | false=>rfl | true=>exact absurd (by simp [hp]) h
  simp [List.takeWhile,List.dropWhile,hc]
 | c :: a,b,h,hb=>by
  rw [List.all_cons,AK]at h;have:=qq4 a b h.2 hb;rw [AJ,Bj,Bk,if_pos h.1,if_pos h.1,this.1,this.2];exact⟨rfl,rfl⟩
theorem qj8 {p:UInt8→Bool}:∀ l:List UInt8,∃ z,l=z ++ l.dropWhile p∧z.all p=true
 | []=>⟨[],rfl,rfl⟩
 | c :: l=>by
  obtain⟨z,h1,h2⟩:=qj8 (p:=p) l;rw [Bk];by_cases hp:p c=true
  ·rw [if_pos hp];refine⟨c :: z,?_,by rw [List.all_cons,hp,h2];rfl⟩;rw [AJ,← h1]
  ·rw [if_neg hp];exact⟨[],rfl,rfl⟩
theorem all48:∀ z:List UInt8,z.all (· == 48)=true→z=List.replicate z.length 48
 | [],_=>rfl
 | c :: z,h=>by
  rw [List.all_cons,AK]at h;have hc:c=48:=by simpa using h.1
  rw [AE,List.replicate_succ,← all48 z h.2,hc]
theorem nm_mk (b:Bool) (n:Int) (h:0≤n):Nm (mk b n):=by
 unfold mk Nm
 split
 ·right;cases b<;>simp
 ·left;cases b<;>simp<;>omega
theorem qq15 (b:List UInt8) (h:b.all qr1=true):(qs16 b).all qr1=true:=by
 unfold qs16;rw [List.all_eq_true];intro c hc;have:=List.mem_of_mem_take hc;rw [List.mem_append]at this
 rcases this with q | q
 ·exact List.all_eq_true.1 h c q
 ·rw [List.mem_replicate]at q;rw [q.2];decide
theorem qe17 {s a b:List UInt8} (h:litP s=some (a,b)):a.all qr1=true∧b.all qr1=true:=by
 have ht:(s.takeWhile qr1).all qr1=true:=List.all_takeWhile;unfold litP at h;simp only at h
 split at h
 ·split at h
  ·cases h
  ·cases h;exact⟨ht,rfl⟩
 ·split at h
  ·split at h
   ·rename_i q;cases h;exact⟨ht,q.1⟩
   ·cases h
  ·cases h
theorem nm_lit (s:List UInt8):Nm (qf8 s).1:=by
 unfold qf8
 cases h:litP s with
 | none=>exact .inl ⟨rfl,by decide⟩
 | some q=>
  obtain⟨a,b⟩:=q;have:=qe17 h;exact nm_mk false _ (qg15 _ _ rfl (by rw [List.all_append,this.1,qq15 b this.2];rfl))
end Go.Proofs.YtocdckniokhbbaaGreatDoor.FigA
namespace Go.Proofs.YtocdckniokhbbaaGreatDoor.FigB
open Go.RowKit YtocdckniokhbbaaGreatDoorW.PrintWords YtocdckniokhbbaaGreatDoorW.PrintLast YtocdckniokhbbaaGreatDoorW.PrintMore DecA DecE DecF SpanA FigA
def qu10 (d:Int × Int) (c:UInt8):Int × Int:=qd19 (nrm (qd17 (nrm d) (0,10000000))) (nrm (0,(c.toNat:Int) - 48))
theorem nrm_mk (n:Int) (h:0≤n):nrm (mk false n)=mk false n:=qx15 (nm_mk false n h)
theorem qj21 {n:Int} (h:n>9223372036854775807):mk false n=(2,0):=by rw [qk21 h];rfl
theorem mk_lo {n:Int} (h:n≤9223372036854775807):mk false n=(0,n):=by rw [qe25 h];rfl
theorem qf21 (x:Int) (h:0≤x∧x≤9):nrm (0,x)=(0,x):=qx15 (.inl ⟨rfl,by omega⟩)
theorem step_mk (n:Int) (hn:0≤n) (c:UInt8) (hc:qr1 c=true):qu10 (mk false n) c=mk false (10*n+((c.toNat:Int) - 48)):=by
 rw [qo3]at hc;have h9:0≤(c.toNat:Int) - 48∧(c.toNat:Int) - 48≤9:=by omega
 unfold qu10;rw [nrm_mk n hn,qf21 _ h9];generalize (c.toNat:Int) - 48=x at *;by_cases h:n>9223372036854775807
 ·rw [qj21 h,qj21 (show 10*n+x>9223372036854775807 by omega)];have e:qd17 (2,0) (0,10000000)=(2,0):=by decide
  rw [e,show nrm (2,0)=(2,0) by decide];unfold qd19;simp
 ·have hab:ab n=n:=by unfold ab;rw [if_neg (by omega)]
  have e:qd17 (0,n) (0,10000000)=mk false (10*n):=by
   unfold qd17;rw [if_neg (by simp),if_neg (by simp)]
   have h1:decide (sgn (0,n)*sgn (0,10000000)<0)=false:=by
    rw [qe20,qe20,decide_eq_false_iff_not];rw [if_pos (show(10000000:Int)>0 by omega)]
    repeat' split
    all_goals omega
   rw [h1];simp only;rw [hab,show ab 10000000=10000000 from rfl,show n*10000000 / 1000000=10*n by omega]
  rw [mk_lo (by omega),e,nrm_mk _ (by omega)];by_cases h2:10*n>9223372036854775807
  ·rw [qj21 h2,qj21 (show 10*n+x>9223372036854775807 by omega)];unfold qd19;simp
  ·rw [mk_lo (by omega)];have e2:qd19 (0,10*n) (0,x)=qe19 (10*n+x):=by unfold qd19;rw [if_neg (by simp),if_pos rfl,if_pos rfl]
   rw [e2];unfold qe19;by_cases h3:10*n+x>9223372036854775807
   ·rw [qj21 h3,if_pos h3]
   ·rw [mk_lo (by omega),if_neg h3,if_neg (by omega)]
theorem qb22:∀ (l:List UInt8) (n:Int),0≤n→l.all qr1=true→l.foldl qu10 (mk false n)=mk false (l.foldl (fun a c=>10*a+((c.toNat:Int) - 48)) n)
 | [],n,_,_=>rfl
 | c :: l,n,hn,h=>by
  rw [List.all_cons,AK]at h;have hc:=(qo3 c).1 h.1;simp only [List.foldl_cons];rw [step_mk n hn c h.1,qb22 l _ (by omega) h.2]
theorem qd26 (l:List UInt8) (h:l.all qr1=true):l.foldl qu10 (0,0)=mk false (qg13 l):=qb22 l 0 (by omega) h
theorem qj23 (a b:List UInt8):qg13 (a.dropWhile (· == 48) ++ b)=qg13 (a ++ b):=by
 obtain⟨z,h1,h2⟩:=qj8 (p:=(· == (48:UInt8))) a
 have hz:qg13 z=0:=by
  rw [all48 z h2];generalize z.length=k
  induction k with
  | zero=>rfl
  | succ k ih=>rw [List.replicate_succ',qk13,ih];decide
 conv=>rhs;rw [h1]
 rw [A9,qk23 z,hz];omega
theorem ql13 (a:List UInt8) (h:a.all qr1=true):(a.dropWhile (· == 48)).all qr1=true:=by
 obtain⟨z,h1,h2⟩:=qj8 (p:=(· == (48:UInt8))) a;rw [h1,List.all_append,AK]at h;exact h.2
theorem qc26 (a b:List UInt8) (ha:a.all qr1=true) (hb:b.all qr1=true):(a.dropWhile (· == 48) ++ qs16 b).foldl qu10 (0,0)=mk false (qg13 (a ++ qs16 b)):=by
 rw [qd26 _ (by rw [List.all_append,ql13 a ha,qq15 b hb];rfl),qj23]
end Go.Proofs.YtocdckniokhbbaaGreatDoor.FigB
namespace Go.Proofs.YtocdckniokhbbaaGreatDoor.FigC
open Go.RowKit YtocdckniokhbbaaGreatDoorW.PrintWords YtocdckniokhbbaaGreatDoorW.PrintLast YtocdckniokhbbaaGreatDoorW.PrintMore CharB CharD CharF SpanA FigA
def sp (x:Nat):Bool:=qr13 (x:Int)
theorem sp_low (c:UInt8):sp c.toNat=spB c:=by
 have:∀ c:UInt8,sp c.toNat=spB c:=by
  intro c;have h:∀ n:Fin 256,sp (UInt8.ofNat n.1).toNat=spB (UInt8.ofNat n.1):=by decide +kernel
  have:=h ⟨c.toNat,c.toNat_lt⟩;simpa using this
 exact this c
theorem qx23 (c:UInt8) (h:128≤c.toNat):spB c=false:=by
 have n:∀ d:UInt8,d.toNat<128→c≠d:=fun d hd e=>by rw [e]at h;omega
 unfold spB;simp [n 32 (by decide),n 9 (by decide),n 10 (by decide),n 13 (by decide)]
theorem dec_ba (l:List UInt8):Bg (ba l) 0=AU l:=by
 have:=BJ (ba l) 0;rw [List.drop_zero,qa1]at this;exact this.symm
theorem sp_high (c:UInt8) (t:List UInt8) (h:128≤c.toNat):sp (AU (c :: t)).1=false:=by
 rw [← dec_ba];have hz:0<(ba (c :: t)).size:=by rw [qj1];simp
 exact qs18 (ba (c :: t)) 0 hz (by show 128≤c.toNat;exact h)
theorem left_sp (s:ByteArray):∀ (n pos:Nat),s.size≤pos+n →
  (Lib.idxFuncFrom sp false s n pos= -1∧(s.data.toList.drop pos).dropWhile spB= [])∨(∃ k:Nat,Lib.idxFuncFrom sp false s n pos=(k:Int)∧pos≤k∧k<s.size∧(s.data.toList.drop pos).dropWhile spB=s.data.toList.drop k):=by
 intro n
 induction n with
 | zero=>
  intro pos h;left;rw [List.drop_eq_nil_of_le za5];exact⟨rfl,rfl⟩
 | succ n ih=>
  intro pos h;by_cases hp:pos<s.size
  ·have hp':pos<s.data.toList.length:=by rw [← A8];exact hp
   unfold Lib.idxFuncFrom;rw [if_pos hp,← BJ,AQ hp',Bk];by_cases hc:(s.data.toList[pos]).toNat<128
   ·rw [Lib.decodeL_ascii _ _ hc];simp only;rw [sp_low]
    cases hs:spB s.data.toList[pos]with
    | true=>
     rw [if_neg (by simp),if_pos rfl]
     rcases ih (pos+1) (by omega)with ⟨h1,h2⟩ | ⟨k,h1,h2,h3,h4⟩
     ·exact .inl ⟨h1,h2⟩
     ·exact .inr ⟨k,h1,by omega,h3,h4⟩
    | false=>
     rw [if_pos rfl,if_neg (by simp),← AQ hp'];exact .inr ⟨pos,rfl,Ag _,hp,rfl⟩
   ·rw [sp_high _ _ (by omega),if_pos rfl,qx23 _ (by omega),if_neg (by simp),← AQ hp'];exact .inr ⟨pos,rfl,Ag _,hp,rfl⟩
  ·left;rw [Lib.idxFuncFrom_end _ _ _ _ _ hp,List.drop_eq_nil_of_le za5];exact⟨rfl,rfl⟩
theorem qh15 (s:ByteArray):Lib.trimLeftF sp s=ba (s.data.toList.dropWhile spB):=by
 have h:=left_sp s s.size 0 (by omega);rw [List.drop_zero]at h;apply qb2;rw [qa1];unfold Lib.trimLeftF Lib.idxFunc
 rcases h with ⟨h1,h2⟩ | ⟨k,h1,h2,h3,h4⟩
 ·rw [h1,if_pos rfl,h2]
 ·rw [h1,if_neg (by omega),h4,Int.toNat_natCast,qk1,List.take_of_length_le (by rw [Bf,← A8];exact Ag _)]
theorem getD_at (l:List UInt8) (i:Nat) (h:i<l.length):l.getD i 0=l[i]:=by simp [List.getD,h]
end Go.Proofs.YtocdckniokhbbaaGreatDoor.FigC
namespace Go.Proofs.YtocdckniokhbbaaGreatDoor.Txt
open Go.RowKit YtocdckniokhbbaaGreatDoorW.PrintWords YtocdckniokhbbaaGreatDoorW.PrintLast YtocdckniokhbbaaGreatDoorW.PrintMore CharA CharB CharC CharD CharF SpanA
theorem dec_L (l:List UInt8):Bg (ba l) 0=AU l:=by
 have:=BJ (ba l) 0;rw [List.drop_zero,qa1]at this;exact this.symm
theorem qq7 (l:List UInt8) (h:l≠ []):qp3 (ba l)=if AU l=(65533,1)then false else isB ((AU l).1:Int) && qp3 (ba (l.drop (AU l).2)):=by
 have hp:0<(ba l).size:=by rw [qj1];exact List.length_pos_iff.2 h
 have hw:=qn16 (ba l) 0 hp;have hw0:=qp4 (ba l) 0 hp;rw [dec_L,qj1]at hw;rw [dec_L]at hw0;obtain⟨n,hn⟩:∃ n,(ba l).size=n+1:=⟨(ba l).size - 1,by omega⟩;rw [qo6];rw [hn];simp only [qx2,if_pos hp,dec_L];rw [qj1]at hn;by_cases hd:AU l=(65533,1)
 ·rw [if_pos hd,if_pos hd]
 ·rw [if_neg hd,if_neg hd,qo6];generalize hwd:(AU l).2=w at *;have e1:ba l=ba (l.take w) ++ ba (l.drop w):=by rw [qx22,List.take_append_drop]
  have e2:(ba (l.take w)).size=w:=by rw [qj1,List.length_take];omega
  have e3:qx2 (ba l) n (0+w)=qx2 (ba (l.drop w)) (ba (l.drop w)).size 0:=by
   have h1:=qi16 (ba (l.take w)) (ba (l.drop w)) n 0;rw [← e1,e2,Nat.add_zero]at h1;rw [Nat.zero_add,h1];have h2:=qv18 (ba (l.drop w)) (ba (l.drop w)).size (n - (ba (l.drop w)).size) 0 (by omega);rw [← h2]
   congr 1
   rw [qj1,Bf];omega
  rw [e3]
  cases qx2 (ba (l.drop w)) (ba (l.drop w)).size 0 with
  | none=>simp
  | some q=>simp
theorem dec_low (c:UInt8) (t:List UInt8) (h:c.toNat<128):AU (c :: t)=(c.toNat,1):=Lib.decodeL_ascii c t h
theorem qq5 (c:UInt8) (t:List UInt8) (h:c.toNat<128):qp3 (ba (c :: t))=(isB (c.toNat:Int) && qp3 (ba t)):=by
 rw [qq7 _ (by simp),dec_low c t h,if_neg za6];rfl
theorem qu6:qp3 (ba [])=true:=by rw [qo6];rfl
theorem dn1 (n b0:Nat) (b2 b3 b1:Nat) (h:128≤b0) (h1:¬ (1<n∧b1 / 64=2)):Bq n b0 b1 b2 b3=(65533,1):=by
 unfold Bq;rw [if_neg (by omega),if_neg (fun q=>h1 q.2),if_neg (fun q=>h1 q.2.1),if_neg (fun q=>h1 q.2.1)]
theorem pT {p:Prop} (h:p):p=True:=propext ⟨fun _=>trivial,fun _=>h⟩
theorem pF {p:Prop} (h:¬ p):p=False:=propext ⟨h,False.elim⟩
theorem dn2 (n m b0 b1 b2 b3 c2 c3:Nat) (h:128≤b0) (hn:1<n) (hm:1<m) (h1:¬ (2<n∧b2 / 64=2)) (h2:¬ (2<m∧c2 / 64=2)):Bq n b0 b1 b2 b3=Bq m b0 b1 c2 c3:=by
 unfold Bq;simp only [pT hn,pT hm,pF h1,pF h2,and_false,false_and,if_false]
theorem dn3 (n m b0 b1 b2 b3 c3:Nat) (h:128≤b0) (hn:2<n) (hm:2<m) (h1:¬ (3<n∧b3 / 64=2)) (h2:¬ (3<m∧c3 / 64=2)):Bq n b0 b1 b2 b3=Bq m b0 b1 b2 c3:=by
 unfold Bq;simp only [pT hn,pT hm,pT (show 1<n by omega),pT (show 1<m by omega),pF h1,pF h2,and_false,false_and,if_false]
theorem dn4 (n m b0 b1 b2 b3:Nat) (hn:3<n) (hm:3<m):Bq n b0 b1 b2 b3=Bq m b0 b1 b2 b3:=by
 unfold Bq;simp only [pT hn,pT hm,pT (show 1<n by omega),pT (show 1<m by omega),pT (show 2<n by omega),pT (show 2<m by omega)]
theorem low64 (c:UInt8) (h:c.toNat<128):¬ c.toNat / 64=2:=by omega
theorem qd16 (n b0 b1 b2 b3:Nat) (h:128≤b0) (hg:Bq n b0 b1 b2 b3≠(65533,1)) :
  ((Bq n b0 b1 b2 b3).2=2∧1<n∧b1 / 64=2)∨((Bq n b0 b1 b2 b3).2=3∧2<n∧b1 / 64=2∧b2 / 64=2)∨((Bq n b0 b1 b2 b3).2=4∧3<n∧b1 / 64=2∧b2 / 64=2∧b3 / 64=2):=by
 revert hg
 unfold Bq
 repeat' split
 all_goals
  intro hg
  first | exact absurd rfl hg | (simp;omega) | omega
theorem qc9 (x y:List UInt8) (k:Nat) (h:k<x.length):(x ++ y).getD k 0=x.getD k 0:=by
 simp [List.getD,List.getElem?_append_left h]
theorem qb26 (x y:List UInt8) (c:UInt8):(x ++ c :: y).getD x.length 0=c:=by
 simp [List.getD]
theorem dec_in (x y:List UInt8) (c:UInt8) (hx:x≠ []) (hc:c.toNat<128) :
  (AU (x ++ c :: y)=(65533,1)→AU x=(65533,1))∧(AU (x ++ c :: y)≠(65533,1)→AU x=AU (x ++ c :: y)∧(AU (x ++ c :: y)).2≤x.length):=by
 have hx1:1≤x.length:=List.length_pos_iff.2 hx;have hlen:(x ++ c :: y).length=x.length+1+y.length:=by simp;omega
 rw [Lib.decodeL_N,Lib.decodeL_N x,hlen,qc9 x _ 0 (by omega)];have c64:=low64 c hc
 have out:∀ k,k=x.length→¬ ((x ++ c :: y).getD k 0).toNat / 64=2:=by
  rintro k rfl;rw [qb26];exact c64
 by_cases h0:(x.getD 0 0).toNat<128
 ·have e:∀ n b1 b2 b3,Bq n (x.getD 0 0).toNat b1 b2 b3=((x.getD 0 0).toNat,1):=fun n b1 b2 b3=>Lib.decodeN_ascii _ _ _ _ _ h0;rw [e,e];exact⟨fun h=>h,fun _=>⟨rfl,hx1⟩⟩
 have hb:128≤(x.getD 0 0).toNat:=by omega
 by_cases l1:x.length=1
 ·rw [dn1 _ _ _ _ _ hb (fun z=>out 1 l1.symm z.2),dn1 x.length _ _ _ _ hb (fun z=>by omega)];exact⟨fun _=>rfl,fun h=>absurd rfl h⟩
 rw [qc9 x _ 1 (by omega)];by_cases l2:x.length=2
 ·have e:=dn2 (x.length+1+y.length) x.length (x.getD 0 0).toNat (x.getD 1 0).toNat ((x ++ c :: y).getD 2 0).toNat ((x ++ c :: y).getD 3 0).toNat (x.getD 2 0).toNat (x.getD 3 0).toNat hb (by omega) (by omega) (fun z=>out 2 l2.symm z.2) (fun z=>by omega);rw [← e];refine⟨fun h=>h,fun h=>⟨rfl,?_⟩⟩
  rcases qd16 _ _ _ _ _ hb h with ⟨q,_⟩ | ⟨q,a,b,d⟩ | ⟨q,a,b,d,f⟩
  ·omega
  ·exact(out 2 l2.symm d).elim
  ·exact(out 2 l2.symm d).elim
 rw [qc9 x _ 2 (by omega)];by_cases l3:x.length=3
 ·have e:=dn3 (x.length+1+y.length) x.length (x.getD 0 0).toNat (x.getD 1 0).toNat (x.getD 2 0).toNat ((x ++ c :: y).getD 3 0).toNat (x.getD 3 0).toNat hb (by omega) (by omega) (fun z=>out 3 l3.symm z.2) (fun z=>by omega);rw [← e];refine⟨fun h=>h,fun h=>⟨rfl,?_⟩⟩
  rcases qd16 _ _ _ _ _ hb h with ⟨q,_⟩ | ⟨q,a,b,d⟩ | ⟨q,a,b,d,f⟩
  ·omega
  ·omega
  ·exact(out 3 l3.symm f).elim
 rw [qc9 x _ 3 (by omega)];have e:=dn4 (x.length+1+y.length) x.length (x.getD 0 0).toNat (x.getD 1 0).toNat (x.getD 2 0).toNat (x.getD 3 0).toNat (by omega) (by omega);rw [← e];refine⟨fun h=>h,fun h=>⟨rfl,?_⟩⟩
 rcases qd16 _ _ _ _ _ hb h with ⟨q,_⟩ | ⟨q,a,b,d⟩ | ⟨q,a,b,d,f⟩<;>omega
theorem qo23 (c:UInt8) (hc:c.toNat<128) (y:List UInt8):∀ (n:Nat) (x:List UInt8),x.length≤n→qp3 (ba (x ++ c :: y))=(qp3 (ba x) && qp3 (ba (c :: y))):=by
 intro n
 induction n with
 | zero=>intro x h;rw [List.length_eq_zero_iff.1 (Nat.le_zero.1 h),qu6];rfl
 | succ n ih=>
  intro x h;by_cases hx:x= []
  ·rw [hx,qu6];rfl
  obtain⟨h1,h2⟩:=dec_in x y c hx hc;rw [qq7 (x ++ c :: y) (by simp),qq7 x hx];by_cases hd:AU (x ++ c :: y)=(65533,1)
  ·rw [if_pos hd,if_pos (h1 hd)];rfl
  ·obtain⟨e1,e2⟩:=h2 hd;have hw:=Lib.decodeL_width (x ++ c :: y);rw [if_neg hd,e1,if_neg hd,List.drop_append_of_le_length e2,ih _ (by rw [Bf];omega),Bool.and_assoc]
theorem qn23 (c:UInt8) (hc:c.toNat<128) (x y:List UInt8):qp3 (ba (x ++ c :: y))=(qp3 (ba x) && (isB (c.toNat:Int) && qp3 (ba y))):=by
 rw [qo23 c hc y x.length x (Ag _),qq5 c y hc]
end Go.Proofs.YtocdckniokhbbaaGreatDoor.Txt
