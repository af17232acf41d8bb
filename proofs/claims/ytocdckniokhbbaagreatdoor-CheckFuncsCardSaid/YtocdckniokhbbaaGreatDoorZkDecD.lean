import Derived.Test.YtocdckniokhbbaaGreatDoorZkZz
import Derived.Shelf.Unicode.ValidAny
import Derived.Test.YtocdckniokhbbaaGreatDoorProg
import Derived.Test.YtocdckniokhbbaaGreatDoorZkPFx1
import Derived.Below
import Derived.Deep.Draws
import Derived.Deep.AppendLies
import Derived.Maps.AppendAt
import Derived.OwnWalk
import Derived.Laws.BytesArg
import Derived.Laws.MakeOwn
import Derived.Laws.OwnMore
import Derived.Deep.OwnRows
import Derived.Tactics
import Derived.Lib.ConvBytes
import Derived.Laws.Slices
import Derived.WalkKit
import Derived.KernelRfl
import Derived.RowKit3
import Derived.Deep.LoopGhost
import Derived.Deep.QuietTactic
import Derived.BigQuiet
import Derived.WideLaws
import Derived.Deep.DeepCutAuto
import Derived.Deep.CutBlock
import Derived.Deep.RegionHeld3
import Derived.Laws.Rows
import Derived.Lib.AppendStr
import Derived.ArgAppend
import Derived.Laws.IdiomCopy
import Derived.OrdersHeld
import Derived.Laws.BitsLemmas
import Derived.RowKit
import Derived.RegionTactic
import Derived.ChangeAlike
import Derived.BigRegion
import Derived.Great.BuildSlice
import Derived.Deep.WholeRow
import Derived.Test.YtocdckniokhbbaaGreatDoorZkWWords
import Derived.Test.YtocdckniokhbbaaGreatDoorZkWLast
import Derived.Laws.StructEq
import Derived.Test.YtocdckniokhbbaaGreatDoorZkWMore
import Derived.Test.YtocdckniokhbbaaGreatDoorZkPFx10
import Derived.Test.YtocdckniokhbbaaGreatDoorZkPFx11
import Derived.Test.YtocdckniokhbbaaGreatDoorZkPFx12
import Derived.Test.YtocdckniokhbbaaGreatDoorZkPFx13
import Derived.Test.YtocdckniokhbbaaGreatDoorZkPFx14
import Derived.Lib.OthersKept
import Derived.Lib.ValidU
import Derived.Lib.TrimUEq
import Derived.Lib.ValidLaws
import Derived.Laws.MathBits
import Derived.Laws.Bits64b
import Derived.Lib.ItoaNum
set_option linter.unusedVariables false
set_option linter.unusedSimpArgs false
open Go.Proofs.Tryz renaming prog→Aj,underlying3→BA,isAgg3→Ce,sizeOf3→B8,zeroValue3→BJ,isAgg4→Cd,sizeOf4→B7,zeroValue4→BI,zeroValue5→BX,isAgg9→Cc,sizeOf9→BZ,zeroValue9→BH,underlying150→BS,zeroValue150→BV
open Go.Value renaming string→Ac,bool→Ae
open Go.Utf8 renaming decode→BL
open Nat renaming le_refl→Ag
open Go.RowKit.Below renaming refl→Ao
open Go.Lib renaming size_eq→Bh
open Go.IntKind renaming u64→Am
open Int renaming tdiv→Bm
open Option renaming bind_some→AH
set_option maxHeartbeats 8000000
set_option maxRecDepth 100000
/-
 DERIVED: THE SHELF's CONTRACTS AT THIS DUMP, IN PLAIN WORDS (tools/lay-plain.mjs out of 'TryzvShelf.lean', which tools/lay-shelf.mjs wrote): THE SAME DECLARATIONS UNDER THE SAME NAMES: 'import', 'namespace', 'open', 'def', 'theorem' AND NOTHING ELSE: no command of the shelf's: FOR A HAND-IN. Each laying: the table of numbers ('.._ren') and one theorem, a field a fact of the dump's own or the kernel's comparison; each contract: ONE APPLICATION.
-/
namespace Go.Proofs
open Go.Shelf
def Tryz.lays196_ren:Go.Shelf.Ren:=⟨fun | 196=>84 | 259=>119 | n=>n,fun | 9=>9 | 4=>4 | 3=>3 | 5=>5 | 12=>12 | 119=>146 | 0=>0 | 46=>150 | 139=>149 | 138=>148 | 53=>173 | n=>n,fun | 3=>0 | 4=>1 | n=>n⟩
theorem Tryz.lays196:Go.Proofs.Lays.n196 Aj Tryz.lays196_ren:={
 mixed:=by kernel_rfl
 f196:=Tryz.func84.trans (congrArg some zm)
 f259:=Tryz.func119.trans (congrArg some zm)
 t0:=Tryz.underlying0
 a0:=Tryz.isAgg0
 z0:=Tryz.sizeOf0
 v0:=Tryz.zeroValue0
 t3:=BA
 a3:=Ce
 z3:=B8
 v3:=BJ
 t4:=Tryz.underlying4
 a4:=Cd
 z4:=B7
 v4:=BI
 t5:=Tryz.underlying5
 a5:=Tryz.isAgg5
 z5:=Tryz.sizeOf5
 v5:=BX
 t9:=Tryz.underlying9
 a9:=Cc
 z9:=BZ
 v9:=BH
 t12:=Tryz.underlying12
 a12:=Tryz.isAgg12
 z12:=Tryz.sizeOf12
 v12:=Tryz.zeroValue12
 t46:=BS
 a46:=Tryz.isAgg150
 z46:=Tryz.sizeOf150
 v46:=BV
 t53:=Tryz.underlying173
 a53:=Tryz.isAgg173
 z53:=Tryz.sizeOf173
 v53:=Tryz.zeroValue173
 t119:=Tryz.underlying146
 a119:=Tryz.isAgg146
 z119:=Tryz.sizeOf146
 t138:=Tryz.underlying148
 a138:=Tryz.isAgg148
 z138:=Tryz.sizeOf148
 v138:=Tryz.zeroValue148
 t139:=Tryz.underlying149
 a139:=Tryz.isAgg149
 z139:=Tryz.sizeOf149
 v139:=Tryz.zeroValue149
 g3:=by kernel_rfl
 g4:=zm}
open Go.RowKit Go.Lib in
theorem Tryz.utf8_ValidString (s:ByteArray) (w:World) (hs:s.size≤9223372036854775807) (hT:Lib.Utf8Tabs 0 1 w) :
  Calls Aj 84 #[Ac s] w fun e w'=>e= .returned (Ae (Lib.validD s.data.toList))∧Below w.heap.size w w':=Any.utf8_ValidString Tryz.lays196 s w hs hT
end Go.Proofs
namespace Go.Proofs.YtocdckniokhbbaaGreatDoor.CharB
open Go.RowKit YtocdckniokhbbaaGreatDoorW.PrintWords YtocdckniokhbbaaGreatDoorW.PrintLast YtocdckniokhbbaaGreatDoorW.PrintMore CharA
def qq12 (a:Int):Bool:=a == 32 || a == 9 || a == 10 || a == 13
theorem qc14 (a0:Int) (w:World):Calls Aj 44 #[.int .i32 a0] w fun e w'=>e= .returned (Ae (qq12 a0))∧Drawn0 w w':=
 PF.char_Space.calls a0 _ w (by unfold PF.char_Space.f qq12;by_cases h1:a0=32<;>by_cases h2:a0=9<;>by_cases h3:a0=10<;>simp [h1,h2,h3])
def allR (p:Int→Bool) (s:ByteArray):Nat→Nat→Bool
 | 0,_=>true
 | n+1,pos=>if pos<s.size then(if p (BL s pos).1 then allR p s n (pos+(BL s pos).2)else false)else true
theorem qt8 (s:ByteArray) (pos:Nat) (h:pos<s.size):1≤(BL s pos).2:=by
 by_cases ha:(s[pos]'h).toNat<128
 ·rw [decode_ascii s pos h ha];exact Ag _
 ·exact(decode_high s pos h (by omega)).2
theorem qy24 (p:Int→Bool) (s:ByteArray) (b pos:Nat) (h:¬ pos<s.size):allR p s b pos=true:=by
 cases b with
 | zero=>rfl
 | succ b=>simp [allR,h]
theorem below_drewN {B:Nat} {w w':World} (h:Below B w w') (m:Nat):Below B w (w'.drewN m):=⟨h.1,h.2,h.3,h.4,h.5⟩
def qc10 (s:ByteArray):Bool:=Lib.validD s.data.toList && allR isB s s.size 0
theorem qp5 (s:ByteArray) (w:World) (hs:s.size≤9223372036854775807) (hT:Lib.Utf8Tabs 0 1 w):Calls Aj 42 #[Ac s] w fun e w'=>e= .returned (Ae (qc10 s))∧Below w.heap.size w w':=by
 have cV:=Tryz.utf8_ValidString s w hs hT;clear hT;obtain⟨r,hr⟩:∃ r,allR isB s s.size 0=r:=⟨_,rfl⟩;unfold qc10;rw [hr];have H:=Aside0.mk hr;clear hr;have hr0:=Ao w.heap.size w;generalize Lib.validD s.data.toList=V at cV ⊢
 cases V with
 | false=>
  go_enter Tryz.func42,Tryz.ntmps42;go_wp2_with (go_at_call 84;refine cV.mono ?_;rintro e w1 ⟨rfl,hb⟩)
  go_ret;exact⟨rfl,hb⟩
 | true=>
  go_enter Tryz.func42,Tryz.ntmps42;go_wp2_with (go_at_call 84;refine cV.mono ?_;rintro e w1 ⟨rfl,hb⟩)
  have HZ:=Aside0.mk hb.size;have HW:=Aside0.mk (qg hb (.stringIter s 0));clear hb;clear cV;go_loopg [] s.size (fun kq w'=>∃ pos,Aside0 (allR isB s kq pos=r)∧Aside0 (kq≤s.size)∧Aside0 (s.size≤pos+kq)∧Aside0 (w'.heap[w1.heap.size]?=some (.stringIter s pos))∧Aside0 (Below w.heap.size w w'))
  case atStart=>exact⟨0,H,⟨by omega⟩,⟨by omega⟩,⟨by rw [World.iter_heap]⟩,HW⟩
  case round=>
   obtain⟨pos,HA,HK,HP,HI,HB⟩:=hrel;by_cases hp:pos<s.size
   ·cases gk with
    | zero=>have:=HP.out;omega
    | succ k1=>
     have hnx:∀ ty,(Instr.next (.pointer (some ⟨w1.heap.size,0,none⟩)) true ty).run Aj wr=_:=fun ty=>Lib.run_next_any_at wr w1.heap.size s pos ty HI.out hp;have ha:=HA.out;have hwd:=qt8 s pos hp;simp only [allR,if_pos hp]at ha;generalize (BL s pos).1=q at hnx ha;generalize hd2:(BL s pos).2=q2 at hnx ha hwd;have hI:(wr.iterAt w1.heap.size s (pos+q2)).heap[w1.heap.size]?=some (.stringIter s (pos+q2)):=Lib.iterAt_heap wr _ s pos _ HI.out;have hB:Below w.heap.size w (wr.iterAt w1.heap.size s (pos+q2)):=Lib.below_iterAt HB.out HZ.out s _;have S:=qe24 (q:Int)
     cases hs:isB q with
     | false=>
      rw [hs]at ha S;simp at ha;subst ha;go_wp2_with (go_at_call 85;refine(S _).mono ?_;rintro e w' ⟨rfl,hb1⟩)
      go_ret;exact⟨rfl,hB.trans (hb1.mono hB.size)⟩
     | true=>
      rw [hs]at ha S;simp at ha;have ha':=Aside0.mk ha;have hp':Aside0 (s.size≤pos+q2+k1):=⟨zr⟩;go_wp2_with (go_at_call 85;refine(S _).mono ?_;rintro e w' ⟨rfl,hb1⟩)
      go_roundg k1
      case measure=>have:=HK.out;omega
      case rel=>exact⟨pos+q2,ha',⟨by have:=HK.out;omega⟩,hp',⟨qn hI hb1⟩,⟨hB.trans (hb1.mono hB.size)⟩⟩
   ·have hnx:∀ ty,(Instr.next (.pointer (some ⟨w1.heap.size,0,none⟩)) true ty).run Aj wr=_:=fun ty=>Lib.run_next_end_at wr w1.heap.size s pos ty HI.out hp;have ha:=HA.out;rw [qy24 _ _ _ _ hp]at ha;subst ha;go_wp2;go_ret;exact⟨rfl,HB.out⟩
def qj14 (s:ByteArray):Nat→Nat→Bool
 | 0,_=>true
 | n+1,pos=>if pos<s.size then(if pos=0∧qp10 (BL s pos).1=false then false else if qh9 (BL s pos).1 then qj14 s n (pos+(BL s pos).2)else false)else true
theorem qv19 (s:ByteArray) (b pos:Nat) (h:¬ pos<s.size):qj14 s b pos=true:=by
 cases b with
 | zero=>rfl
 | succ b=>simp [qj14,h]
def qf4 (s:ByteArray):Bool:=if s.size<1 then false else if 32<s.size then false else qc10 s && qj14 s s.size 0
theorem qu5 (s:ByteArray) (w:World) (hT:Lib.Utf8Tabs 0 1 w):Calls Aj 66 #[Ac s] w fun e w'=>e= .returned (Ae (qf4 s))∧Below w.heap.size w w':=by
 have hr0:=Ao w.heap.size w;unfold qf4;by_cases c1:s.size<1
 ·rw [if_pos c1];have c1b:decide ((s.size:Int)<1)=true:=by simp;omega
  go_enter Tryz.func66,Tryz.ntmps66;go_wp2_with fail
  go_ret;exact⟨rfl,hr0⟩
 rw [if_neg c1];have c1b:decide ((s.size:Int)<1)=false:=by simp;omega
 by_cases c2:32<s.size
 ·rw [if_pos c2];have c2b:decide ((32:Int)<(s.size:Int))=true:=by simp;omega
  go_enter Tryz.func66,Tryz.ntmps66;go_wp2_with fail
  go_ret;exact⟨rfl,hr0⟩
 rw [if_neg c2];have c2b:decide ((32:Int)<(s.size:Int))=false:=by simp;omega
 have cV:=qp5 s w (by omega) hT;clear hT;obtain⟨r,hr⟩:∃ r,qj14 s s.size 0=r:=⟨_,rfl⟩;rw [hr];have H:=Aside0.mk hr;clear hr;generalize qc10 s=V at cV ⊢;have CS:=Aside0.mk c2;clear c1 c2
 cases V with
 | false=>
  go_enter Tryz.func66,Tryz.ntmps66;go_wp2_with (go_at_call 42;refine cV.mono ?_;rintro e w1 ⟨rfl,hb⟩)
  go_ret;exact⟨rfl,hb⟩
 | true=>
  go_enter Tryz.func66,Tryz.ntmps66;go_wp2_with (go_at_call 42;refine cV.mono ?_;rintro e w1 ⟨rfl,hb⟩)
  have HZ:=Aside0.mk hb.size;have HW:=Aside0.mk (qg hb (.stringIter s 0));clear hb;clear cV;go_loopg [] s.size (fun kq w'=>∃ pos,Aside0 (qj14 s kq pos=r)∧Aside0 (kq≤s.size)∧Aside0 (s.size≤pos+kq)∧Aside0 (w'.heap[w1.heap.size]?=some (.stringIter s pos))∧Aside0 (Below w.heap.size w w'))
  case atStart=>exact⟨0,H,⟨by omega⟩,⟨by omega⟩,⟨by rw [World.iter_heap]⟩,HW⟩
  case round=>
   obtain⟨pos,HA,HK,HP,HI,HB⟩:=hrel;by_cases hp:pos<s.size
   ·cases gk with
    | zero=>have:=HP.out;omega
    | succ k1=>
     have hnx:∀ ty,(Instr.next (.pointer (some ⟨w1.heap.size,0,none⟩)) true ty).run Aj wr=_:=fun ty=>Lib.run_next_any_at wr w1.heap.size s pos ty HI.out hp;have ha:=HA.out;have hwd:=qt8 s pos hp;simp only [qj14,if_pos hp]at ha;generalize (BL s pos).1=q at hnx ha;generalize hd2:(BL s pos).2=q2 at hnx ha hwd;have hI:(wr.iterAt w1.heap.size s (pos+q2)).heap[w1.heap.size]?=some (.stringIter s (pos+q2)):=Lib.iterAt_heap wr _ s pos _ HI.out;have hB:Below w.heap.size w (wr.iterAt w1.heap.size s (pos+q2)):=Lib.below_iterAt HB.out HZ.out s _;have hp':Aside0 (s.size≤pos+q2+k1):=⟨zr⟩;have S1:=qa9 (q:Int);have S2:=qp7 (q:Int);have HI':=Aside0.mk hI;have HB':=Aside0.mk hB;clear hI hB;by_cases h0:pos=0
     ·have h0b:((pos:Int) == 0)=true:=by simp [h0]
      cases hs:qp10 q with
      | false=>
       rw [hs]at ha S1;rw [if_pos ⟨h0,rfl⟩]at ha;subst ha;clear h0;go_wp2_with (go_at_call 114;refine(S1 _).mono ?_;rintro e w2 ⟨rfl,hb1⟩)
       go_ret;exact⟨rfl,HB'.out.trans (hb1.mono HB'.out.size)⟩
      | true=>
       rw [hs]at ha S1;rw [if_neg (by simp)]at ha;clear h0
       cases hs2:qh9 q with
       | false=>
        rw [hs2]at ha S2;simp at ha;subst ha;go_wp2_with (first | (go_at_call 114;refine(S1 _).mono ?_;rintro e w2 ⟨rfl,hb1⟩) | (go_at_call 115;refine(S2 _).mono ?_;rintro e w3 ⟨rfl,hb2⟩))
        go_ret;exact⟨rfl,(HB'.out.trans (hb1.mono HB'.out.size)).trans (hb2.mono (HB'.out.trans (hb1.mono HB'.out.size)).size)⟩
       | true=>
        rw [hs2]at ha S2;simp at ha;have ha':=Aside0.mk ha;go_wp2_with (first | (go_at_call 114;refine(S1 _).mono ?_;rintro e w2 ⟨rfl,hb1⟩) | (go_at_call 115;refine(S2 _).mono ?_;rintro e w3 ⟨rfl,hb2⟩))
        go_roundg k1
        case measure=>have:=HK.out;omega
        case rel=>exact⟨pos+q2,ha',⟨by have:=HK.out;omega⟩,hp',⟨qn (qn HI'.out hb1) hb2⟩,⟨(HB'.out.trans (hb1.mono HB'.out.size)).trans (hb2.mono (HB'.out.trans (hb1.mono HB'.out.size)).size)⟩⟩
     ·have h0b:((pos:Int) == 0)=false:=by simp [h0]
      rw [if_neg (by simp [h0])]at ha
      cases hs2:qh9 q with
      | false=>
       rw [hs2]at ha S2;simp at ha;subst ha;go_wp2_with (go_at_call 115;refine(S2 _).mono ?_;rintro e w3 ⟨rfl,hb2⟩)
       go_ret;exact⟨rfl,HB'.out.trans (hb2.mono HB'.out.size)⟩
      | true=>
       rw [hs2]at ha S2;simp at ha;have ha':=Aside0.mk ha;go_wp2_with (go_at_call 115;refine(S2 _).mono ?_;rintro e w3 ⟨rfl,hb2⟩)
       go_roundg k1
       case measure=>have:=HK.out;omega
       case rel=>exact⟨pos+q2,ha',⟨by have:=HK.out;omega⟩,hp',⟨qn HI'.out hb2⟩,⟨HB'.out.trans (hb2.mono HB'.out.size)⟩⟩
   ·have hnx:∀ ty,(Instr.next (.pointer (some ⟨w1.heap.size,0,none⟩)) true ty).run Aj wr=_:=fun ty=>Lib.run_next_end_at wr w1.heap.size s pos ty HI.out hp;have ha:=HA.out;rw [qv19 _ _ _ hp]at ha;subst ha;go_wp2;go_ret;exact⟨rfl,HB.out⟩
end Go.Proofs.YtocdckniokhbbaaGreatDoor.CharB
namespace Go.Proofs.YtocdckniokhbbaaGreatDoor.CharC
end Go.Proofs.YtocdckniokhbbaaGreatDoor.CharC
namespace Go.Proofs.YtocdckniokhbbaaGreatDoor.CharD
open Go.RowKit YtocdckniokhbbaaGreatDoorW.PrintWords YtocdckniokhbbaaGreatDoorW.PrintLast YtocdckniokhbbaaGreatDoorW.PrintMore CharA CharB CharC PF
theorem dw (n b0 b1 b2 b3:Nat) (h:0<n):(Lib.decodeN n b0 b1 b2 b3).2≤n:=by
 unfold Lib.decodeN
 repeat' split
 all_goals (simp;try omega)
theorem qs21 (s:ByteArray) (pos:Nat) (h:pos<s.size):pos+(BL s pos).2≤s.size:=by
 rw [Lib.decode_N];have:=dw (s.data.toList.length - pos) (s.data.toList.getD pos 0).toNat (s.data.toList.getD (pos+1) 0).toNat (s.data.toList.getD (pos+2) 0).toNat (s.data.toList.getD (pos+3) 0).toNat za3;rw [← Bh]at this ⊢;omega
theorem qx16 (s:ByteArray) (pos:Nat) (h:pos<s.size) (ha:128≤(s[pos]'h).toNat):qq12 ((BL s pos).1:Int)=false:=by
 have:=(decode_high s pos h ha).1;unfold qq12;generalize (BL s pos).1=q at *;simp;omega
end Go.Proofs.YtocdckniokhbbaaGreatDoor.CharD
namespace Go.Proofs.YtocdckniokhbbaaGreatDoor.CharF
open Go.RowKit YtocdckniokhbbaaGreatDoorW.PrintWords YtocdckniokhbbaaGreatDoorW.PrintLast YtocdckniokhbbaaGreatDoorW.PrintMore CharA CharB CharC CharD
theorem qv24 (a b:ByteArray):(a ++ b).data.toList=a.data.toList ++ b.data.toList:=by simp
end Go.Proofs.YtocdckniokhbbaaGreatDoor.CharF
namespace Go.Proofs.YtocdckniokhbbaaGreatDoor.DecA
open Go.RowKit PF YtocdckniokhbbaaGreatDoorW.PrintWords YtocdckniokhbbaaGreatDoorW.PrintLast YtocdckniokhbbaaGreatDoorW.PrintMore
theorem w64 {x:Int} (h: -9223372036854775808≤x) (h':x≤9223372036854775807):wrap64 x=x:=by unfold wrap64;omega
theorem u64 {x:Int} (h:0≤x) (h':x≤18446744073709551615):Am.wrap x=x:=by
 simp [IntKind.wrap,IntKind.signed,IntKind.bits]<;>omega
end Go.Proofs.YtocdckniokhbbaaGreatDoor.DecA
namespace Go.Proofs.YtocdckniokhbbaaGreatDoor.DecB
open Go.RowKit PF YtocdckniokhbbaaGreatDoorW.PrintWords YtocdckniokhbbaaGreatDoorW.PrintLast YtocdckniokhbbaaGreatDoorW.PrintMore DecA
theorem qp3 {k n:Nat} (h:n<k):∃ m,k=m+1∧n≤m:=⟨k - 1,by omega,by omega⟩
end Go.Proofs.YtocdckniokhbbaaGreatDoor.DecB
namespace Go.Proofs.YtocdckniokhbbaaGreatDoor.DecD
open Go.RowKit PF YtocdckniokhbbaaGreatDoorW.PrintWords YtocdckniokhbbaaGreatDoorW.PrintLast YtocdckniokhbbaaGreatDoorW.PrintMore DecA DecB
theorem ql6 (n:Int):Am.wrap n=n % 18446744073709551616:=by simp [IntKind.wrap,IntKind.signed,IntKind.bits]
theorem mul64_f (x y:Nat) (hx:x<18446744073709551616) (hy:y<18446744073709551616) :
  bits_Mul64.f x y=some (((x*y / 18446744073709551616:Nat):Int),((x*y % 18446744073709551616:Nat):Int)):=by
 unfold bits_Mul64.f;simp only [ql6];rw [and_low32 (x:Int) (by omega) (by omega),and_low32 (y:Int) (by omega) (by omega),and_low32 (_ % 18446744073709551616) (by omega) (by omega)];rw [mul64_arith (x:Int) (y:Int) (by omega) (by omega) (by omega) (by omega)];simp
theorem qw20 {n y q:Int} (hy:0<y) (h1:q*y≤n) (h2:n<q*y+y):n / y=q:=by
 have e:n=(n - q*y)+q*y:=by omega
 rw [e,Int.add_mul_ediv_right _ _ (by omega),Int.ediv_eq_zero_of_lt (by omega) (by omega)];omega
structure Step (y v1 v0 u u1 q r:Int):Prop where
 hv1:2147483648≤v1
 hv1':v1<4294967296
 hv0:0≤v0
 hv0':v0<4294967296
 hy:y=v1*4294967296+v0
 hu:0≤u
 huy:u<y
 hu1:0≤u1
 hu1':u1<4294967296
 hq:0≤q
 hqb:q≤4294967297
 hr:r=u - q*v1
 hr0:0≤r
 hrb:r<4294967296
 hup:u*4294967296+u1<q*y+y
theorem Step.qy {y v1 v0 u u1 q r:Int} (h:Step y v1 v0 u u1 q r):q*y=(q*v1)*4294967296+q*v0:=by rw [h.hy];grind
theorem Step.big {y v1 v0 u u1 q r:Int} (h:Step y v1 v0 u u1 q r) (hq:4294967296≤q∨q*v0>4294967296*r+u1):u*4294967296+u1<q*y:=by
 have h1:=h.qy;have h2:=h.hr;have h3:=h.huy;have h4:=h.hu1'
 rcases hq with hq | hq
 ·have:4294967296*y≤q*y:=Int.mul_le_mul_of_nonneg_right hq (by have:=h.hu;omega);omega
 ·generalize q*v1=P at *;generalize q*v0=S at *;omega
theorem Step.pos {y v1 v0 u u1 q r:Int} (h:Step y v1 v0 u u1 q r) (hq:u*4294967296+u1<q*y):1≤q:=by
 apply Decidable.byContradiction;intro hn;have:q=0:=by have:=h.hq;omega
 rw [this]at hq;have:=h.hu;have:=h.hu1;omega
theorem Step.done {y v1 v0 u u1 q r:Int} (h:Step y v1 v0 u u1 q r) (hq:¬ q*v0>4294967296*r+u1):(u*4294967296+u1) / y=q:=by
 have h1:=h.qy;have h2:=h.hr;have h3:=h.hup;refine qw20 (by have:=h.hu;have:=h.huy;omega) ?_ h3;generalize q*v1=P at *;generalize q*v0=S at *;omega
theorem Step.last {y v1 v0 u u1 q r:Int} (h:Step y v1 v0 u u1 q r) (hq:u*4294967296+u1<q*y) (hr:4294967296≤r+v1):(u*4294967296+u1) / y=q - 1:=by
 have h1:=h.qy;have h2:=h.hr;have hpos:=h.pos hq;have e:(q - 1)*y=q*y - y:=by rw [Int.sub_mul,Int.one_mul]
 have hs:(q - 1)*v0≤4294967296*4294967295:=Int.mul_le_mul (by have:=h.hqb;omega) (by have:=h.hv0';omega) h.hv0 (by omega);rw [Int.sub_mul,Int.one_mul]at hs;refine qw20 (by have:=h.hu;have:=h.huy;omega) ?_ (by omega);rw [e];have h4:=h.hy;have h5:=h.hu1;generalize q*v1=P at *;generalize q*v0=S at *;omega
theorem Step.next {y v1 v0 u u1 q r:Int} (h:Step y v1 v0 u u1 q r) (hq:u*4294967296+u1<q*y) (hr:¬ 4294967296≤r+v1):Step y v1 v0 u u1 (q - 1) (r+v1):=by
 have hpos:=h.pos hq;have e:(q - 1)*y=q*y - y:=by rw [Int.sub_mul,Int.one_mul]
 have e1:(q - 1)*v1=q*v1 - v1:=by rw [Int.sub_mul,Int.one_mul]
 exact⟨h.hv1,h.hv1',h.hv0,h.hv0',h.hy,h.hu,h.huy,h.hu1,h.hu1',by omega,by have:=h.hqb;omega,by rw [e1,h.hr];omega,by have:=h.hr0;have:=h.hv1;omega,by omega,by omega⟩
theorem Step.first {y v1 v0 u u1:Int} (hv1:2147483648≤v1) (hv1':v1<4294967296) (hv0:0≤v0) (hv0':v0<4294967296) (hy:y=v1*4294967296+v0)
  (hu:0≤u) (huy:u<y) (hu1:0≤u1) (hu1':u1<4294967296):Step y v1 v0 u u1 (u / v1) (u - u / v1*v1):=by
 have h1:=Int.ediv_mul_add_emod u v1;have h2:=Int.emod_nonneg u (show v1≠0 by omega);have h3:=Int.emod_lt_of_pos u (show 0<v1 by omega);have hq0:0≤u / v1:=Int.ediv_nonneg hu (by omega)
 have hqb:u / v1≤4294967297:=by
  have h4:u / v1<4294967298:=by
   apply Int.ediv_lt_of_lt_mul (by omega);omega
  omega
 have hqy:(u / v1)*y=(u / v1*v1)*4294967296+u / v1*v0:=by rw [hy];grind
 have hs:0≤u / v1*v0:=Int.mul_nonneg hq0 hv0;refine⟨hv1,hv1',hv0,hv0',hy,hu,huy,hu1,hu1',hq0,hqb,rfl,by omega,by omega,?_⟩;rw [hqy];generalize u / v1*v1=P at *;generalize u / v1*v0=S at *;omega
theorem Step.fits {y v1 v0 u u1 q r:Int} (h:Step y v1 v0 u u1 q r) (hq:q<4294967296):Am.wrap (q*v0)=q*v0∧Am.wrap (Am.wrap (4294967296*r)+u1)=4294967296*r+u1:=by
 have hs:0≤q*v0:=Int.mul_nonneg h.hq h.hv0;have hs':q*v0≤4294967295*4294967295:=Int.mul_le_mul (by omega) (by have:=h.hv0';omega) h.hv0 (by omega);have h1:=h.hr0;have h2:=h.hrb;have h3:=h.hu1;have h4:=h.hu1';exact⟨u64 hs (by omega),by rw [u64 (x:=4294967296*r) (by omega) (by omega),u64 (by omega) (by omega)]⟩
theorem div_l0 {y v1 v0 u u1:Int} (x8 x14:Int):∀ (d:Nat) (q r:Int) (k:Nat),Step y v1 v0 u u1 q r→4294967296 - r≤d*2147483648→2*d<k →
  ∃ k',bits_Div64.l0 k y x8 v1 v0 u u1 x14 q r=bits_Div64.j2 k' y x8 v1 v0 u u1 x14 ((u*4294967296+u1) / y)∧k≤k'+2*d:=by
 intro d
 induction d with
 | zero=>intro q r k h hd _;have:=h.hrb;omega
 | succ d ih=>
  intro q r k h hd hk;obtain⟨k,rfl,_⟩:=qp3 (show 2*d+1<k by omega);obtain⟨k,rfl,_⟩:=qp3 (show 2*d<k by omega);have h1:=h.hr0;have h2:=h.hrb;have h3:=h.hv1;have h4:=h.hv1';have h5:=h.hqb;have h6:=h.hq
  have stop:¬ q*v0>4294967296*r+u1→bits_Div64.j1 (k+1) y x8 v1 v0 u u1 x14 q r false=bits_Div64.j2 k y x8 v1 v0 u u1 x14 ((u*4294967296+u1) / y):=by
   intro hn;simp only [bits_Div64.j1];rw [if_neg (by simp),h.done hn]
  have go:u*4294967296+u1<q*y→ ∃ k',bits_Div64.j1 (k+1) y x8 v1 v0 u u1 x14 q r true=bits_Div64.j2 k' y x8 v1 v0 u u1 x14 ((u*4294967296+u1) / y)∧k≤k'+2*d:=by
   intro hn;have hp:=h.pos hn;simp only [bits_Div64.j1];rw [if_pos trivial,u64 (x:=r+v1) (by omega) (by omega),u64 (x:=q - 1) (by omega) (by omega)];by_cases hr:4294967296≤r+v1
   ·rw [if_pos (by omega),h.last hn hr];exact⟨k,rfl,by omega⟩
   ·rw [if_neg (by omega)];obtain⟨k',e,hk'⟩:=ih (q - 1) (r+v1) k (h.next hn hr) (by omega) (by omega);exact⟨k',e,by omega⟩
  rw [bits_Div64.l0];by_cases hb:q≥4294967296
  ·rw [if_pos hb];obtain⟨k',e,hk'⟩:=go (h.big (.inl (by omega)));exact⟨k',e,by omega⟩
  ·rw [if_neg hb,(h.fits (by omega)).1,(h.fits (by omega)).2];by_cases hc:q*v0>4294967296*r+u1
   ·rw [decide_eq_true hc];obtain⟨k',e,hk'⟩:=go (h.big (.inr hc));exact⟨k',e,by omega⟩
   ·rw [decide_eq_false hc];exact⟨k,stop hc,by omega⟩
theorem div_l1 {y v1 v0 u u0:Int} (x8 x15 x17:Int) (h8:0≤x8):∀ (d:Nat) (q r:Int) (k:Nat),Step y v1 v0 u u0 q r→4294967296 - r≤d*2147483648→2*d<k →
  ∃ z,bits_Div64.l1 k y x8 v1 v0 u0 x15 r x17 q=some (Am.wrap (Am.wrap (x15*4294967296)+(u*4294967296+u0) / y),z):=by
 intro d
 induction d with
 | zero=>intro q r k h hd _;have:=h.hrb;omega
 | succ d ih=>
  intro q r k h hd hk;obtain⟨k,rfl,_⟩:=qp3 (show 2*d+1<k by omega);obtain⟨k,rfl,_⟩:=qp3 (show 2*d<k by omega);have h1:=h.hr0;have h2:=h.hrb;have h3:=h.hv1;have h4:=h.hv1';have h5:=h.hqb;have h6:=h.hq
  have stop:¬ q*v0>4294967296*r+u0→ ∃ z,bits_Div64.j4 (k+1) y x8 v1 v0 u0 x15 r x17 q false=some (Am.wrap (Am.wrap (x15*4294967296)+(u*4294967296+u0) / y),z):=by
   intro hn;simp only [bits_Div64.j4];rw [if_neg (by simp),if_pos h8,h.done hn];exact⟨_,rfl⟩
  have go:u*4294967296+u0<q*y→ ∃ z,bits_Div64.j4 (k+1) y x8 v1 v0 u0 x15 r x17 q true=some (Am.wrap (Am.wrap (x15*4294967296)+(u*4294967296+u0) / y),z):=by
   intro hn;have hp:=h.pos hn;simp only [bits_Div64.j4];rw [if_pos trivial,u64 (x:=r+v1) (by omega) (by omega),u64 (x:=q - 1) (by omega) (by omega)];by_cases hr:4294967296≤r+v1
   ·rw [if_pos (by omega),if_pos h8,h.last hn hr];exact⟨_,rfl⟩
   ·rw [if_neg (by omega)];exact ih (q - 1) (r+v1) k (h.next hn hr) (by omega) (by omega)
  rw [bits_Div64.l1];by_cases hb:q≥4294967296
  ·rw [if_pos hb];exact go (h.big (.inl (by omega)))
  ·rw [if_neg hb,(h.fits (by omega)).1,(h.fits (by omega)).2];by_cases hc:q*v0>4294967296*r+u0
   ·rw [decide_eq_true hc];exact go (h.big (.inr hc))
   ·rw [decide_eq_false hc];exact stop hc
theorem qe11 {n y b:Int} (hy:0<y) (h:n<b*y):n / y<b:=Int.ediv_lt_of_lt_mul hy h
theorem div_two {y v1 v0 u u1 u0:Int} (x8:Int) (h8:0≤x8) (k:Nat) (hk:20<k) (hv1:2147483648≤v1) (hv1':v1<4294967296) (hv0:0≤v0) (hv0':v0<4294967296) (hy:y=v1*4294967296+v0)
  (hu:0≤u) (huy:u<y) (hu1:0≤u1) (hu1':u1<4294967296) (hu0:0≤u0) (hu0':u0<4294967296) :
  ∃ z,bits_Div64.l0 k y x8 v1 v0 u u1 u0 (u / v1) (u - u / v1*v1)=some (((u*4294967296+u1)*4294967296+u0) / y,z):=by
 obtain⟨k',h1,h2⟩:=div_l0 x8 u0 2 (u / v1) (u - u / v1*v1) k (Step.first hv1 hv1' hv0 hv0' hy hu huy hu1 hu1') (by have:=(Step.first hv1 hv1' hv0 hv0' hy hu huy hu1 hu1').hr0;omega) (by omega);rw [h1];obtain⟨k',rfl,_⟩:=qp3 (show 10<k' by omega);have hy0:0<y:=by omega
 have hN:0≤u*4294967296+u1:=by omega
 have hdm:=Int.ediv_mul_add_emod (u*4294967296+u1) y;have hm0:=Int.emod_nonneg (u*4294967296+u1) (show y≠0 by omega);have hm1:=Int.emod_lt_of_pos (u*4294967296+u1) hy0;have hq0:0≤(u*4294967296+u1) / y:=Int.ediv_nonneg hN (by omega);have hq1:(u*4294967296+u1) / y<4294967296:=qe11 hy0 (by omega);simp only [bits_Div64.j2];rw [if_neg (by omega)]
 have e:Am.wrap (Am.wrap (Am.wrap (u*4294967296)+u1) - Am.wrap ((u*4294967296+u1) / y*y))=(u*4294967296+u1) % y:=by
  simp only [ql6];generalize (u*4294967296+u1) / y*y=Z at *;generalize (u*4294967296+u1) % y=m at *;omega
 rw [e];generalize hqq:(u*4294967296+u1) / y=Q at *;generalize hmm:(u*4294967296+u1) % y=m at *;have hf:=Step.first hv1 hv1' hv0 hv0' hy hm0 hm1 hu0 hu0'
 have e1:Am.wrap (Bm m v1)=m / v1:=by
  rw [Int.tdiv_eq_ediv_of_nonneg hm0];exact u64 hf.hq (by have:=hf.hqb;omega)
 have e2:Am.wrap (m - Am.wrap (Am.wrap (Bm m v1)*v1))=m - m / v1*v1:=by
  rw [e1];have h3:=hf.hr0;have h4:=hf.hrb;have h5:=Int.mul_nonneg hf.hq (show 0≤v1 by omega);rw [u64 (x:=m / v1*v1) h5 (by omega),u64 h3 (by omega)]
 rw [e2,e1];obtain⟨z,h6⟩:=div_l1 (y:=y) (v1:=v1) (v0:=v0) (u:=m) (u0:=u0) x8 Q m h8 2 _ _ k' hf (by have:=hf.hr0;omega) (by omega);refine⟨z,?_⟩;rw [h6];have hd1:0≤(m*4294967296+u0) / y:=Int.ediv_nonneg (by omega) (by omega);have hd2:(m*4294967296+u0) / y<4294967296:=qe11 hy0 (by omega)
 have hd3:((u*4294967296+u1)*4294967296+u0) / y=Q*4294967296+(m*4294967296+u0) / y:=by
  rw [← hdm,show(Q*y+m)*4294967296+u0=(m*4294967296+u0)+(Q*4294967296)*y by grind,Int.add_mul_ediv_right _ _ (by omega)];omega
 rw [hd3,u64 (x:=Q*4294967296) (by omega) (by omega),u64 (by omega) (by omega)]
theorem qd12 (x:Nat) (h0:x≠0) (h:x<18446744073709551616):1≤Lib.bitLen x∧Lib.bitLen x≤64∧2 ^ (Lib.bitLen x - 1)≤x∧x<2 ^ Lib.bitLen x:=by
 have:=Lib.bitLenAux_bounds 64 x (by simpa using h) h0;refine⟨this.1,?_,this.2.1,this.2.2⟩;apply Decidable.byContradiction;intro hn;have h1:2 ^ 64≤2 ^ (Lib.bitLen x - 1):=Nat.pow_le_pow_right (by omega) (by omega);have h2:=this.2.1;unfold Lib.bitLen at h1 hn;omega
theorem qo18 (x s:Nat) (hs:s≤64) (h:x*2 ^ s<18446744073709551616):shl .u64 (x:Int) (s:Int)=((x*2 ^ s:Nat):Int):=by
 unfold shl;have e:min (s:Int).toNat Am.bits=s:=by simp [IntKind.bits];omega
 rw [e,u64]
 ·simp
 ·exact Int.mul_nonneg (by omega) (Int.pow_nonneg (by omega))
 ·have:((x*2 ^ s:Nat):Int)<18446744073709551616:=by omega
  simp at this;omega
theorem shl_mod (x s:Nat) (hs:s≤64):shl .u64 (x:Int) (s:Int)=((x*2 ^ s % 18446744073709551616:Nat):Int):=by
 unfold shl;have e:min (s:Int).toNat Am.bits=s:=by simp [IntKind.bits];omega
 rw [e,ql6];simp
theorem shr_nat (x s:Nat) (hs:s≤64):shr .u64 (x:Int) (s:Int)=((x / 2 ^ s:Nat):Int):=by
 unfold shr;have e:min (s:Int).toNat Am.bits=s:=by simp [IntKind.bits];omega
 rw [e];simp
theorem div64_f (hi lo y k:Nat) (hlo:lo<18446744073709551616) (hy:y<18446744073709551616) (hhy:hi<y) (hk:30<k) :
  ∃ z,bits_Div64.f k hi lo y=some ((((hi*18446744073709551616+lo) / y:Nat):Int),z):=by
 unfold bits_Div64.f;rw [if_neg (by omega),if_neg (by omega)];by_cases h0:hi=0
 ·subst h0;rw [if_pos (by rfl),Int.tdiv_eq_ediv_of_nonneg (by omega)];refine⟨Int.tmod lo y,?_⟩;rw [Nat.zero_mul,Nat.zero_add];have hle:lo / y≤lo:=Nat.div_le_self _ _;have e:(lo:Int) / (y:Int)=((lo / y:Nat):Int):=by simp
  rw [e];generalize lo / y=D at *;rw [u64 (by omega) (by omega)]
 ·rw [if_neg (by omega)];have hb:=qd12 y (by omega) hy;unfold bits_LeadingZeros64.f;rw [if_pos (by omega),Int.toNat_natCast];simp only [AH];generalize Lib.bitLen y=b at *;obtain⟨hb1,hb2,hb3,hb4⟩:=hb;have e1:(64 - (b:Int))=((64 - b:Nat):Int):=by omega
  rw [e1,u64 (x:=((64 - b:Nat):Int)) (by omega) (by omega)];have e2:(64 - ((64 - b:Nat):Int))=(b:Int):=by omega
  rw [e2,u64 (x:=(b:Int)) (by omega) (by omega),if_pos (by omega),if_pos (by omega)];have hp:2 ^ (64 - b)*2 ^ b=18446744073709551616:=by rw [← Nat.pow_add,show 64 - b+b=64 by omega]
  have hp0:0<2 ^ (64 - b):=Nat.pow_pos (by omega);have hpb:0<2 ^ b:=Nat.pow_pos (by omega)
  have hyp:y*2 ^ (64 - b)<18446744073709551616:=by
   rw [← hp,Nat.mul_comm (2 ^ (64 - b)) (2 ^ b)];exact Nat.mul_lt_mul_of_pos_right hb4 hp0
  have hyl:9223372036854775808≤y*2 ^ (64 - b):=by
   have:2 ^ (b - 1)*2 ^ (64 - b)≤y*2 ^ (64 - b):=Nat.mul_le_mul_right _ hb3;rw [← Nat.pow_add,show b - 1+(64 - b)=63 by omega]at this;omega
  have hhp:hi*2 ^ (64 - b)<y*2 ^ (64 - b):=Nat.mul_lt_mul_of_pos_right hhy hp0;rw [qo18 y (64 - b) (by omega) hyp,qo18 hi (64 - b) (by omega) (by omega),shl_mod lo (64 - b) (by omega),shr_nat lo b (by omega)]
  have hsplit:hi*2 ^ (64 - b)+lo / 2 ^ b<18446744073709551616∧bits .or .u64 ((hi*2 ^ (64 - b):Nat):Int) ((lo / 2 ^ b:Nat):Int)=((hi*2 ^ (64 - b)+lo / 2 ^ b:Nat):Int)∧(hi*2 ^ (64 - b)+lo / 2 ^ b)*18446744073709551616+lo*2 ^ (64 - b) % 18446744073709551616=(hi*18446744073709551616+lo)*2 ^ (64 - b)∧hi*2 ^ (64 - b)+lo / 2 ^ b<y*2 ^ (64 - b):=by
   have hlt:lo / 2 ^ b<2 ^ (64 - b):=(Nat.div_lt_iff_lt_mul hpb).2 (by rw [hp];exact hlo)
   have hle:hi*2 ^ (64 - b)+2 ^ (64 - b)≤y*2 ^ (64 - b):=by
    have:(hi+1)*2 ^ (64 - b)≤y*2 ^ (64 - b):=Nat.mul_le_mul_right _ (by omega);rw [Nat.add_mul,Nat.one_mul]at this;exact this
   have hor:hi*2 ^ (64 - b) ||| lo / 2 ^ b=hi*2 ^ (64 - b)+lo / 2 ^ b:=by
    rw [Nat.mul_comm hi,Nat.two_pow_add_eq_or_of_lt hlt]
   refine⟨by omega,?_,?_,by omega⟩
   ·rw [bits_or_u64_nat _ _ (by omega) (by omega),hor]
   ·have e3:lo*2 ^ (64 - b) / 18446744073709551616=lo / 2 ^ b:=by
     rw [← hp,Nat.mul_comm lo,Nat.mul_div_mul_left _ _ hp0]
    have e4:=Nat.div_add_mod (lo*2 ^ (64 - b)) 18446744073709551616;rw [e3]at e4;generalize lo*2 ^ (64 - b) % 18446744073709551616=m at *;rw [Nat.add_mul (hi*18446744073709551616),← e4]
    grind
  obtain⟨hs1,hs2,hs3,hs4⟩:=hsplit;rw [hs2];have e5:(y:Int)*1=y:=by omega
  generalize hY:y*2 ^ (64 - b)=Y at *;generalize hU:hi*2 ^ (64 - b)+lo / 2 ^ b=U at *;generalize hL:lo*2 ^ (64 - b) % 18446744073709551616=L at *;have hLb:L<18446744073709551616:=by rw [← hL];exact Nat.mod_lt _ (by omega)
  rw [and_low32 (Y:Int) (by omega) (by omega),and_low32 (L:Int) (by omega) (by omega)];rw [if_neg (by omega)];have hq:0≤(U:Int) / ((Y:Int) / 4294967296):=Int.ediv_nonneg (by omega) (by omega);have hf:=Step.first (y:=Y) (v1:=(Y:Int) / 4294967296) (v0:=(Y:Int) % 4294967296) (u:=U) (u1:=(L:Int) / 4294967296) (by omega) (by omega) (by omega) (by omega) (by omega) (by omega) (by omega) (by omega) (by omega)
  have e6:Am.wrap (Bm (U:Int) ((Y:Int) / 4294967296))=(U:Int) / ((Y:Int) / 4294967296):=by
   rw [Int.tdiv_eq_ediv_of_nonneg (by omega)];exact u64 hf.hq (by have:=hf.hqb;omega)
  have e7:Am.wrap ((U:Int) - Am.wrap (Am.wrap (Bm (U:Int) ((Y:Int) / 4294967296))*((Y:Int) / 4294967296)))=(U:Int) - (U:Int) / ((Y:Int) / 4294967296)*((Y:Int) / 4294967296):=by
   rw [e6];have h3:=hf.hr0;have h4:=hf.hrb;have h5:=Int.mul_nonneg hf.hq (show 0≤(Y:Int) / 4294967296 by omega);rw [u64 (x:=(U:Int) / ((Y:Int) / 4294967296)*((Y:Int) / 4294967296)) h5 (by omega),u64 h3 (by omega)]
  rw [e7,e6];obtain⟨z,hz⟩:=div_two (y:=Y) (v1:=(Y:Int) / 4294967296) (v0:=(Y:Int) % 4294967296) (u:=U) (u1:=(L:Int) / 4294967296) (u0:=(L:Int) % 4294967296) ((64 - b:Nat):Int) (by omega) k (by omega) (by omega) (by omega) (by omega) (by omega) (by omega) (by omega) (by omega) (by omega) (by omega) (by omega) (by omega);refine⟨z,?_⟩;rw [hz];have e8:((U:Int)*4294967296+(L:Int) / 4294967296)*4294967296+(L:Int) % 4294967296=((U*18446744073709551616+L:Nat):Int):=by omega
  have e9:(hi*18446744073709551616+lo)*2 ^ (64 - b) / Y=(hi*18446744073709551616+lo) / y:=by
   rw [← hY,Nat.mul_div_mul_right _ _ hp0]
  rw [e8,hs3,← e9];simp
end Go.Proofs.YtocdckniokhbbaaGreatDoor.DecD
