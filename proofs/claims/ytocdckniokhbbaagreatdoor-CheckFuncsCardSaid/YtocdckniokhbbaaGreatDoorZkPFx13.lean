import Derived.Test.YtocdckniokhbbaaGreatDoorZkZz
import Derived.Test.YtocdckniokhbbaaGreatDoorProg
import Derived.Below
import Derived.Deep.Draws
import Derived.Deep.AppendLies
import Derived.Maps.AppendAt
import Derived.OwnWalk
import Derived.Laws.BytesArg
import Derived.Laws.MakeOwn
import Derived.Laws.OwnMore
import Derived.Deep.OwnRows
import Derived.Tactics
import Derived.Lib.ConvBytes
import Derived.Laws.Slices
import Derived.WalkKit
import Derived.KernelRfl
import Derived.RowKit3
import Derived.Deep.LoopGhost
import Derived.Deep.QuietTactic
import Derived.BigQuiet
import Derived.WideLaws
import Derived.Deep.DeepCutAuto
import Derived.Deep.CutBlock
import Derived.Deep.RegionHeld3
import Derived.Laws.Rows
import Derived.Lib.AppendStr
import Derived.ArgAppend
import Derived.Laws.IdiomCopy
import Derived.OrdersHeld
import Derived.Laws.BitsLemmas
import Derived.RowKit
import Derived.Test.YtocdckniokhbbaaGreatDoorZkPFx1
import Derived.RegionTactic
import Derived.ChangeAlike
import Derived.BigRegion
import Derived.Great.BuildSlice
import Derived.Deep.WholeRow
import Derived.Test.YtocdckniokhbbaaGreatDoorZkWWords
import Derived.Test.YtocdckniokhbbaaGreatDoorZkWLast
import Derived.Laws.StructEq
import Derived.Test.YtocdckniokhbbaaGreatDoorZkWMore
set_option linter.unusedVariables false
set_option linter.unusedSimpArgs false
open Go.Value renaming int→Aa,bool→Ae
open Go.IntKind renaming i64→Ab,u64→Am
open Go.Proofs.Tryz renaming prog→Aj,underlying24→AC
open Go.RowKit.Below renaming refl→Ao
open List renaming setIfInBounds_toArray→Ap,set_cons_zero→Aw,set_cons_succ→Ax
open Go.Act renaming put→AP
open Option renaming some→Ay,bind_eq_some_iff→AB
open Bool renaming eq_false_iff→AR
open Int renaming tdiv→Bm
open Go renaming bits→AE
open Prod.mk renaming injEq→AU
open Go.World renaming drewN_drewN→BU
open Nat renaming le_refl→Ag
set_option maxHeartbeats 8000000
set_option maxRecDepth 100000
namespace Go.Proofs.YtocdckniokhbbaaGreatDoor.PF
open Go.RowKit YtocdckniokhbbaaGreatDoorW.PrintWords YtocdckniokhbbaaGreatDoorW.PrintLast YtocdckniokhbbaaGreatDoorW.PrintMore
attribute [local go_sem] qw3 qt4
def dec_sign.j0:Nat→Bool→Int→Int→Option (Int)
 | 0,_,_,_=>none
 | k+1,x3,x313000,x313001=>if x3=true then(some 1)else(if x313000=3 then(some (-1))else(if x313001<0 then(some (-1))else(some 0)))
def dec_sign.f (k:Nat) (a0_0:Int) (a0_1:Int):Option (Int):=if a0_0=2 then(dec_sign.j0 k true a0_0 a0_1)else(dec_sign.j0 k (decide (a0_1>0)) a0_0 a0_1)
theorem dec_sign.calls (k:Nat) (a0_0:Int) (a0_1:Int) (r:Int) (w:World) (h:dec_sign.f k a0_0 a0_1=some r) :
  Calls Aj 166 #[.agg #[Aa Ab a0_0,Aa Ab a0_1]] w fun e w'=>e= .returned (Aa Ab r)∧Below w.heap.size w w':=by
 have hu24:=AC;have HB:=Aside0.mk (Ao w.heap.size w);have H:(if a0_0=2 then(dec_sign.j0 k true a0_0 a0_1)else(dec_sign.j0 k (decide (a0_1>0)) a0_0 a0_1))=some r:=h;clear h;have HC2:=Aside0.mk H;clear H;go_enter Tryz.func166,Tryz.ntmps166;go_upto_region 1 with (first | ((with_reducible refine qc1 (N:=1) rfl ?_);refine qa1 ?hg (N:=1) ?hd (cs:= #[Aa Ab a0_0,Aa Ab a0_1]) (t:=24) ?hr ?_;(case hd=>rfl);(case hg=>rfl);(case hr=>first | (go_simp;done) | (go_simp;rfl));intro gb312 hg w3 hbox hb;have BK312:=Aside0.mk (hbox);have GW312:=Aside0.mk ((by rw [hg];exact(qu zj):w.heap.size≤gb312));have GE312:=Aside0.mk ((by rw [hg];exact(qu zj):w.heap.size≤gb312));replace HB:=Aside0.mk (qw zj hb);clear hb hbox hg))
 (try simp only [AP,Ap,Aw,Ax]);go_cut [3] (fun v3 wc=>∃ (kq:Nat) (x3_1:Bool),v3= Ae x3_1∧Aside0 (dec_sign.j0 kq x3_1 a0_0 a0_1=some r)∧Aside0 (kq≤k)∧Aside0 (wc.heap[gb312]?=some (.cells #[Aa Ab a0_0,Aa Ab a0_1] 24 (0,0)))∧Aside0 (Below w.heap.size w wc))
 case first=>
  have H:=HC2.out;clear HC2;by_cases c4:a0_0=2
  ·rw [if_pos c4]at H;have c4b0:(a0_0 == 2)=true:=beq_iff_eq.mpr c4;have c4b1:(a0_0 !=2)=false:=bne_eq_false_iff_eq.mpr c4;clear c4
   (first | rw [c4b0] | (simp only [qm1];rw [c4b0]) | skip)
   have H':=Aside0.mk H;clear H;have hcz5_0:w3.cell? ⟨gb312,0,none⟩=some (Aa Ab a0_0):=(qm BK312.out 0).trans rfl;have hcz5_1:w3.cell? ⟨gb312,1,none⟩=some (Aa Ab a0_1):=(qm BK312.out 1).trans rfl;have hfz5_0:=qe BK312.out 0;have hfz5_1:=qe BK312.out 1;go_wp2;go_meet
   case rel=>exact⟨_,(true),zq,H',⟨zas⟩,⟨by(with_reducible repeat(first | refine qi ?_ _ | refine qj ?_ | refine qb ?_ _));exact BK312.out⟩,⟨zaj⟩⟩
  ·rw [if_neg c4]at H;have c4b0:(a0_0 == 2)=false:=beq_eq_false_iff_ne.mpr c4;have c4b1:(a0_0 !=2)=true:=bne_iff_ne.mpr c4
   (first | rw [c4b0] | (simp only [qm1];rw [c4b0]) | skip)
   have H':=Aside0.mk H;clear H;have hcz6_0:w3.cell? ⟨gb312,0,none⟩=some (Aa Ab a0_0):=(qm BK312.out 0).trans rfl;have hcz6_1:w3.cell? ⟨gb312,1,none⟩=some (Aa Ab a0_1):=(qm BK312.out 1).trans rfl;have hfz6_0:=qe BK312.out 0;have hfz6_1:=qe BK312.out 1;go_wp2;go_meet
   case rel=>exact⟨_,(decide (a0_1>0)),zq,H',⟨zas⟩,⟨by(with_reducible repeat(first | refine qi ?_ _ | refine qj ?_ | refine qb ?_ _));exact BK312.out⟩,⟨zaj⟩⟩
 case rest=>
  clear HC2
  try clear c1
  try clear p2
  try clear c4
  try clear c4b0
  try clear c4b1
  try clear hcz5_0
  try clear hcz5_1
  try clear hcz6_0
  try clear hcz6_1
  try clear hfz5_0
  try clear hfz5_1
  try clear hfz6_0
  try clear hfz6_1
  obtain⟨kq,x3_1,rfl,HA,HJ1,BK312,HB⟩:=hcut
  cases kq with
  | zero=>exact absurd HA.out (by simp [dec_sign.j0])
  | succ kj1=>
   have H:=HA.out;clear HA;simp only [dec_sign.j0]at H;by_cases c7:x3_1=true
   ·subst c7;have H1:(some 1)=some r:=by rw [if_pos rfl]at H;exact H
    clear H;have H:=H1;clear H1;obtain rfl:=Ay.inj H;go_wp2;go_ret;exact⟨zo,zaj⟩
   ·replace c7:=AR.mpr c7;subst c7;have H1:(if a0_0=3 then(some (-1))else(if a0_1<0 then(some (-1))else(some 0)))=some r:=by rw [if_neg (show ¬ (false=true) by decide)]at H;exact H
    clear H;have H:=H1;clear H1;by_cases c8:a0_0=3
    ·rw [if_pos c8]at H;have c8b0:(a0_0 == 3)=true:=beq_iff_eq.mpr c8;have c8b1:(a0_0 !=3)=false:=bne_eq_false_iff_eq.mpr c8;clear c8;obtain rfl:=Ay.inj H;have hcz9_0:wc.cell? ⟨gb312,0,none⟩=some (Aa Ab a0_0):=(qm BK312.out 0).trans rfl;have hcz9_1:wc.cell? ⟨gb312,1,none⟩=some (Aa Ab a0_1):=(qm BK312.out 1).trans rfl;have hfz9_0:=qe BK312.out 0;have hfz9_1:=qe BK312.out 1;go_wp2;go_ret;exact⟨zo,zaj⟩
    ·rw [if_neg c8]at H;have c8b0:(a0_0 == 3)=false:=beq_eq_false_iff_ne.mpr c8;have c8b1:(a0_0 !=3)=true:=bne_iff_ne.mpr c8;by_cases c10:a0_1<0
     ·rw [if_pos c10]at H;have c10b0:decide (a0_1<0)=true:=decide_eq_true c10;clear c10;obtain rfl:=Ay.inj H;have hcz11_0:wc.cell? ⟨gb312,0,none⟩=some (Aa Ab a0_0):=(qm BK312.out 0).trans rfl;have hcz11_1:wc.cell? ⟨gb312,1,none⟩=some (Aa Ab a0_1):=(qm BK312.out 1).trans rfl;have hfz11_0:=qe BK312.out 0;have hfz11_1:=qe BK312.out 1;go_wp2;go_ret;exact⟨zo,zaj⟩
     ·rw [if_neg c10]at H;have c10b0:decide (a0_1<0)=false:=decide_eq_false c10;clear c10;obtain rfl:=Ay.inj H;have hcz12_0:wc.cell? ⟨gb312,0,none⟩=some (Aa Ab a0_0):=(qm BK312.out 0).trans rfl;have hcz12_1:wc.cell? ⟨gb312,1,none⟩=some (Aa Ab a0_1):=(qm BK312.out 1).trans rfl;have hfz12_0:=qe BK312.out 0;have hfz12_1:=qe BK312.out 1;go_wp2;go_ret;exact⟨zo,zaj⟩
def bits_LeadingZeros64.f (x:Int):Option Int:=if 0≤x∧x≤18446744073709551615 then some (64 - (Lib.bitLen x.toNat:Int))else none
theorem bits_LeadingZeros64.calls (x:Int) (r:Int) (w:World) (h:bits_LeadingZeros64.f x=some r) :
  Calls Aj 190 #[.int .u64 x] w fun e w'=>e= .returned (Aa Ab r)∧Drawn0 w w':=by
 unfold bits_LeadingZeros64.f at h;by_cases c:0≤x∧x≤18446744073709551615
 ·rw [if_pos c]at h;obtain rfl:=Ay.inj h;refine(Tryz.bits_LeadingZeros64 x w c.1 c.2).mono ?_;rintro e w' ⟨rfl,rfl⟩;exact⟨rfl,Drawn0.refl _⟩
 ·rw [if_neg c]at h
  cases h
mutual
def bits_Div64.j2:Nat→Int→Int→Int→Int→Int→Int→Int→Int→Option (Int × Int)
 | 0,_,_,_,_,_,_,_,_=>none
 | k+1,x2,x8,x9,x10,x11,x13,x14,x15=>if x9=0 then(none)else(bits_Div64.l1 k x2 x8 x9 x10 x14 x15 (Am.wrap ((Am.wrap ((Am.wrap ((Am.wrap (x11*4294967296))+x13)) - (Am.wrap (x15*x2)))) - (Am.wrap ((Am.wrap (Bm (Am.wrap ((Am.wrap ((Am.wrap (x11*4294967296))+x13)) - (Am.wrap (x15*x2)))) x9))*x9)))) (Am.wrap ((Am.wrap ((Am.wrap (x11*4294967296))+x13)) - (Am.wrap (x15*x2)))) (Am.wrap (Bm (Am.wrap ((Am.wrap ((Am.wrap (x11*4294967296))+x13)) - (Am.wrap (x15*x2)))) x9)))
def bits_Div64.l1:Nat→Int→Int→Int→Int→Int→Int→Int→Int→Int→Option (Int × Int)
 | 0,_,_,_,_,_,_,_,_,_=>none
 | k+1,x2,x8,x9,x10,x14,x15,x16,x17,x18=>if x18≥4294967296 then(bits_Div64.j4 k x2 x8 x9 x10 x14 x15 x16 x17 x18 true)else(bits_Div64.j4 k x2 x8 x9 x10 x14 x15 x16 x17 x18 (decide ((Am.wrap (x18*x10))>(Am.wrap ((Am.wrap (4294967296*x16))+x14)))))
def bits_Div64.j4:Nat→Int→Int→Int→Int→Int→Int→Int→Int→Int→Bool→Option (Int × Int)
 | 0,_,_,_,_,_,_,_,_,_,_=>none
 | k+1,x2,x8,x9,x10,x14,x15,x16,x17,x18,x113=>if x113=true then(if(Am.wrap (x16+x9))≥4294967296 then(if 0≤x8 then(some (Am.wrap ((Am.wrap (x15*4294967296))+(Am.wrap (x18 - 1))),shr .u64 (Am.wrap ((Am.wrap ((Am.wrap (x17*4294967296))+x14)) - (Am.wrap ((Am.wrap (x18 - 1))*x2)))) x8))else(none))else(bits_Div64.l1 k x2 x8 x9 x10 x14 x15 (Am.wrap (x16+x9)) x17 (Am.wrap (x18 - 1))))else(if 0≤x8 then(some (Am.wrap ((Am.wrap (x15*4294967296))+x18),shr .u64 (Am.wrap ((Am.wrap ((Am.wrap (x17*4294967296))+x14)) - (Am.wrap (x18*x2)))) x8))else(none))
def bits_Div64.l0:Nat→Int→Int→Int→Int→Int→Int→Int→Int→Int→Option (Int × Int)
 | 0,_,_,_,_,_,_,_,_,_=>none
 | k+1,x2,x8,x9,x10,x11,x13,x14,x15,x16=>if x15≥4294967296 then(bits_Div64.j1 k x2 x8 x9 x10 x11 x13 x14 x15 x16 true)else(bits_Div64.j1 k x2 x8 x9 x10 x11 x13 x14 x15 x16 (decide ((Am.wrap (x15*x10))>(Am.wrap ((Am.wrap (4294967296*x16))+x13)))))
def bits_Div64.j1:Nat→Int→Int→Int→Int→Int→Int→Int→Int→Int→Bool→Option (Int × Int)
 | 0,_,_,_,_,_,_,_,_,_,_=>none
 | k+1,x2,x8,x9,x10,x11,x13,x14,x15,x16,x78=>if x78=true then(if(Am.wrap (x16+x9))≥4294967296 then(bits_Div64.j2 k x2 x8 x9 x10 x11 x13 x14 (Am.wrap (x15 - 1)))else(bits_Div64.l0 k x2 x8 x9 x10 x11 x13 x14 (Am.wrap (x15 - 1)) (Am.wrap (x16+x9))))else(bits_Div64.j2 k x2 x8 x9 x10 x11 x13 x14 x15)
end
def bits_Div64.f (k:Nat) (a0:Int) (a1:Int) (a2:Int):Option (Int × Int):=if a2=0 then(none)else(if a2≤a0 then(none)else(if a0=0 then(some (Am.wrap (Bm a1 a2),Int.tmod a1 a2))else((bits_LeadingZeros64.f a2).bind fun t313=>(if 0≤(Am.wrap (t313))then(if 0≤(Am.wrap (64 - (Am.wrap (t313))))then(if((shl .u64 a2 (Am.wrap (t313))) / 4294967296)=0 then(none)else(bits_Div64.l0 k (shl .u64 a2 (Am.wrap (t313))) (Am.wrap (t313)) ((shl .u64 a2 (Am.wrap (t313))) / 4294967296) (AE .and .u64 (shl .u64 a2 (Am.wrap (t313))) 4294967295) (AE .or .u64 (shl .u64 a0 (Am.wrap (t313))) (shr .u64 a1 (Am.wrap (64 - (Am.wrap (t313)))))) ((shl .u64 a1 (Am.wrap (t313))) / 4294967296) (AE .and .u64 (shl .u64 a1 (Am.wrap (t313))) 4294967295) (Am.wrap (Bm (AE .or .u64 (shl .u64 a0 (Am.wrap (t313))) (shr .u64 a1 (Am.wrap (64 - (Am.wrap (t313)))))) ((shl .u64 a2 (Am.wrap (t313))) / 4294967296))) (Am.wrap ((AE .or .u64 (shl .u64 a0 (Am.wrap (t313))) (shr .u64 a1 (Am.wrap (64 - (Am.wrap (t313)))))) - (Am.wrap ((Am.wrap (Bm (AE .or .u64 (shl .u64 a0 (Am.wrap (t313))) (shr .u64 a1 (Am.wrap (64 - (Am.wrap (t313)))))) ((shl .u64 a2 (Am.wrap (t313))) / 4294967296)))*((shl .u64 a2 (Am.wrap (t313))) / 4294967296)))))))else(none))else(none)))))
theorem bits_Div64.calls (k:Nat) (a0:Int) (a1:Int) (a2:Int) (r1:Int) (r2:Int) (w:World) (h:bits_Div64.f k a0 a1 a2=some (r1,r2)) :
  Calls Aj 170 #[.int .u64 a0,.int .u64 a1,.int .u64 a2] w fun e w'=>e= .returned (.tuple #[.int .u64 r1,.int .u64 r2])∧Drawn0 w w':=by
 have H:(if a2=0 then(none)else(if a2≤a0 then(none)else(if a0=0 then(some (Am.wrap (Bm a1 a2),Int.tmod a1 a2))else((bits_LeadingZeros64.f a2).bind fun t313=>(if 0≤(Am.wrap (t313))then(if 0≤(Am.wrap (64 - (Am.wrap (t313))))then(if((shl .u64 a2 (Am.wrap (t313))) / 4294967296)=0 then(none)else(bits_Div64.l0 k (shl .u64 a2 (Am.wrap (t313))) (Am.wrap (t313)) ((shl .u64 a2 (Am.wrap (t313))) / 4294967296) (AE .and .u64 (shl .u64 a2 (Am.wrap (t313))) 4294967295) (AE .or .u64 (shl .u64 a0 (Am.wrap (t313))) (shr .u64 a1 (Am.wrap (64 - (Am.wrap (t313)))))) ((shl .u64 a1 (Am.wrap (t313))) / 4294967296) (AE .and .u64 (shl .u64 a1 (Am.wrap (t313))) 4294967295) (Am.wrap (Bm (AE .or .u64 (shl .u64 a0 (Am.wrap (t313))) (shr .u64 a1 (Am.wrap (64 - (Am.wrap (t313)))))) ((shl .u64 a2 (Am.wrap (t313))) / 4294967296))) (Am.wrap ((AE .or .u64 (shl .u64 a0 (Am.wrap (t313))) (shr .u64 a1 (Am.wrap (64 - (Am.wrap (t313)))))) - (Am.wrap ((Am.wrap (Bm (AE .or .u64 (shl .u64 a0 (Am.wrap (t313))) (shr .u64 a1 (Am.wrap (64 - (Am.wrap (t313)))))) ((shl .u64 a2 (Am.wrap (t313))) / 4294967296)))*((shl .u64 a2 (Am.wrap (t313))) / 4294967296)))))))else(none))else(none))))))=some (r1,r2):=h;clear h;by_cases c4:a2=0
 ·rw [if_pos c4]at H;exact absurd H (by simp)
 ·rw [if_neg c4]at H;have c4b0:(a2 == 0)=false:=beq_eq_false_iff_ne.mpr c4;have c4b1:(a2 !=0)=true:=bne_iff_ne.mpr c4;by_cases c5:a2≤a0
  ·rw [if_pos c5]at H;exact absurd H (by simp)
  ·rw [if_neg c5]at H;have c5b0:decide (a2≤a0)=false:=decide_eq_false c5;clear c5;by_cases c6:a0=0
   ·rw [if_pos c6]at H;have c6b0:(a0 == 0)=true:=beq_iff_eq.mpr c6;have c6b1:(a0 !=0)=false:=bne_eq_false_iff_eq.mpr c6;clear c6;simp only [Ay.injEq,AU]at H;obtain⟨rfl,rfl⟩:=H;go_enter Tryz.func170,Tryz.ntmps170;go_wp2
    repeat(go_quiet (fail);try go_wp2)
    go_ret2;exact⟨zq,zt⟩
   ·rw [if_neg c6]at H;have c6b0:(a0 == 0)=false:=beq_eq_false_iff_ne.mpr c6;have c6b1:(a0 !=0)=true:=bne_iff_ne.mpr c6;replace H:=AB.mp H;obtain⟨t313,A70,H⟩:=H;replace H:(if 0≤(Am.wrap (t313))then(if 0≤(Am.wrap (64 - (Am.wrap (t313))))then(if((shl .u64 a2 (Am.wrap (t313))) / 4294967296)=0 then(none)else(bits_Div64.l0 k (shl .u64 a2 (Am.wrap (t313))) (Am.wrap (t313)) ((shl .u64 a2 (Am.wrap (t313))) / 4294967296) (AE .and .u64 (shl .u64 a2 (Am.wrap (t313))) 4294967295) (AE .or .u64 (shl .u64 a0 (Am.wrap (t313))) (shr .u64 a1 (Am.wrap (64 - (Am.wrap (t313)))))) ((shl .u64 a1 (Am.wrap (t313))) / 4294967296) (AE .and .u64 (shl .u64 a1 (Am.wrap (t313))) 4294967295) (Am.wrap (Bm (AE .or .u64 (shl .u64 a0 (Am.wrap (t313))) (shr .u64 a1 (Am.wrap (64 - (Am.wrap (t313)))))) ((shl .u64 a2 (Am.wrap (t313))) / 4294967296))) (Am.wrap ((AE .or .u64 (shl .u64 a0 (Am.wrap (t313))) (shr .u64 a1 (Am.wrap (64 - (Am.wrap (t313)))))) - (Am.wrap ((Am.wrap (Bm (AE .or .u64 (shl .u64 a0 (Am.wrap (t313))) (shr .u64 a1 (Am.wrap (64 - (Am.wrap (t313)))))) ((shl .u64 a2 (Am.wrap (t313))) / 4294967296)))*((shl .u64 a2 (Am.wrap (t313))) / 4294967296)))))))else(none))else(none))=some (r1,r2):=H;have A7:=Aside0.mk A70;clear A70;obtain⟨ji8,hji8⟩:∃ j_:Int,(Am.wrap (t313))=j_:=⟨_,rfl⟩;replace H:(if 0≤(ji8)then(if 0≤(Am.wrap (64 - (ji8)))then(if((shl .u64 a2 (ji8)) / 4294967296)=0 then(none)else(bits_Div64.l0 k (shl .u64 a2 (ji8)) ji8 ((shl .u64 a2 (ji8)) / 4294967296) (AE .and .u64 (shl .u64 a2 (ji8)) 4294967295) (AE .or .u64 (shl .u64 a0 (ji8)) (shr .u64 a1 (Am.wrap (64 - (ji8))))) ((shl .u64 a1 (ji8)) / 4294967296) (AE .and .u64 (shl .u64 a1 (ji8)) 4294967295) (Am.wrap (Bm (AE .or .u64 (shl .u64 a0 (ji8)) (shr .u64 a1 (Am.wrap (64 - (ji8))))) ((shl .u64 a2 (ji8)) / 4294967296))) (Am.wrap ((AE .or .u64 (shl .u64 a0 (ji8)) (shr .u64 a1 (Am.wrap (64 - (ji8))))) - (Am.wrap ((Am.wrap (Bm (AE .or .u64 (shl .u64 a0 (ji8)) (shr .u64 a1 (Am.wrap (64 - (ji8))))) ((shl .u64 a2 (ji8)) / 4294967296)))*((shl .u64 a2 (ji8)) / 4294967296)))))))else(none))else(none))=some (r1,r2):=by first | (rw [hji8]at H;exact H) | (simp only [hji8]at H ⊢;exact H)
    (try rw [hji8]at A7);by_cases c9:0≤(ji8)
    ·rw [if_pos c9]at H;have c9b0:=eq_true c9;have c9b1:decide (0≤(ji8))=true:=decide_eq_true c9;clear c9;obtain⟨ji10,hji10⟩:∃ j_:Int,(shl .u64 a2 (ji8))=j_:=⟨_,rfl⟩;replace H:(if 0≤(Am.wrap (64 - (ji8)))then(if((ji10) / 4294967296)=0 then(none)else(bits_Div64.l0 k ji10 ji8 ((ji10) / 4294967296) (AE .and .u64 (ji10) 4294967295) (AE .or .u64 (shl .u64 a0 (ji8)) (shr .u64 a1 (Am.wrap (64 - (ji8))))) ((shl .u64 a1 (ji8)) / 4294967296) (AE .and .u64 (shl .u64 a1 (ji8)) 4294967295) (Am.wrap (Bm (AE .or .u64 (shl .u64 a0 (ji8)) (shr .u64 a1 (Am.wrap (64 - (ji8))))) ((ji10) / 4294967296))) (Am.wrap ((AE .or .u64 (shl .u64 a0 (ji8)) (shr .u64 a1 (Am.wrap (64 - (ji8))))) - (Am.wrap ((Am.wrap (Bm (AE .or .u64 (shl .u64 a0 (ji8)) (shr .u64 a1 (Am.wrap (64 - (ji8))))) ((ji10) / 4294967296)))*((ji10) / 4294967296)))))))else(none))=some (r1,r2):=by first | (rw [hji10]at H;exact H) | (simp only [hji10]at H ⊢;exact H)
     (try rw [hji10]at A7);have hji10_:(Am.wrap (a2*2 ^ min (ji8).toNat 64))=ji10:=hji10;have hji10z:(ji8)≤64→(Am.wrap (a2*2 ^ (ji8).toNat))=ji10:=qd9 hji10;have c11b0:=eq_true (of_decide_eq_true zaw:0≤(ji8));obtain⟨ji12,hji12⟩:∃ j_:Int,(shl .u64 a0 (ji8))=j_:=⟨_,rfl⟩;replace H:(if 0≤(Am.wrap (64 - (ji8)))then(if((ji10) / 4294967296)=0 then(none)else(bits_Div64.l0 k ji10 ji8 ((ji10) / 4294967296) (AE .and .u64 (ji10) 4294967295) (AE .or .u64 (ji12) (shr .u64 a1 (Am.wrap (64 - (ji8))))) ((shl .u64 a1 (ji8)) / 4294967296) (AE .and .u64 (shl .u64 a1 (ji8)) 4294967295) (Am.wrap (Bm (AE .or .u64 (ji12) (shr .u64 a1 (Am.wrap (64 - (ji8))))) ((ji10) / 4294967296))) (Am.wrap ((AE .or .u64 (ji12) (shr .u64 a1 (Am.wrap (64 - (ji8))))) - (Am.wrap ((Am.wrap (Bm (AE .or .u64 (ji12) (shr .u64 a1 (Am.wrap (64 - (ji8))))) ((ji10) / 4294967296)))*((ji10) / 4294967296)))))))else(none))=some (r1,r2):=by first | (rw [hji12]at H;exact H) | (simp only [hji12]at H ⊢;exact H)
     (try rw [hji12]at A7);have hji12_:(Am.wrap (a0*2 ^ min (ji8).toNat 64))=ji12:=hji12;have hji12z:(ji8)≤64→(Am.wrap (a0*2 ^ (ji8).toNat))=ji12:=qd9 hji12;obtain⟨ji13,hji13⟩:∃ j_:Int,(Am.wrap (64 - (ji8)))=j_:=⟨_,rfl⟩;replace H:(if 0≤(ji13)then(if((ji10) / 4294967296)=0 then(none)else(bits_Div64.l0 k ji10 ji8 ((ji10) / 4294967296) (AE .and .u64 (ji10) 4294967295) (AE .or .u64 (ji12) (shr .u64 a1 (ji13))) ((shl .u64 a1 (ji8)) / 4294967296) (AE .and .u64 (shl .u64 a1 (ji8)) 4294967295) (Am.wrap (Bm (AE .or .u64 (ji12) (shr .u64 a1 (ji13))) ((ji10) / 4294967296))) (Am.wrap ((AE .or .u64 (ji12) (shr .u64 a1 (ji13))) - (Am.wrap ((Am.wrap (Bm (AE .or .u64 (ji12) (shr .u64 a1 (ji13))) ((ji10) / 4294967296)))*((ji10) / 4294967296)))))))else(none))=some (r1,r2):=by first | (rw [hji13]at H;exact H) | (simp only [hji13]at H ⊢;exact H)
     (try rw [hji13]at A7);by_cases c14:0≤(ji13)
     ·rw [if_pos c14]at H;have c14b0:=eq_true c14;have c14b1:decide (0≤(ji13))=true:=decide_eq_true c14;clear c14;obtain⟨ji15,hji15⟩:∃ j_:Int,(shr .u64 a1 (ji13))=j_:=⟨_,rfl⟩;replace H:(if((ji10) / 4294967296)=0 then(none)else(bits_Div64.l0 k ji10 ji8 ((ji10) / 4294967296) (AE .and .u64 (ji10) 4294967295) (AE .or .u64 (ji12) (ji15)) ((shl .u64 a1 (ji8)) / 4294967296) (AE .and .u64 (shl .u64 a1 (ji8)) 4294967295) (Am.wrap (Bm (AE .or .u64 (ji12) (ji15)) ((ji10) / 4294967296))) (Am.wrap ((AE .or .u64 (ji12) (ji15)) - (Am.wrap ((Am.wrap (Bm (AE .or .u64 (ji12) (ji15)) ((ji10) / 4294967296)))*((ji10) / 4294967296)))))))=some (r1,r2):=by first | (rw [hji15]at H;exact H) | (simp only [hji15]at H ⊢;exact H)
      (try rw [hji15]at A7);have hji15_:(a1 / 2 ^ min (ji13).toNat 64)=ji15:=hji15;have hji15z:(ji13)≤64→(a1 / 2 ^ (ji13).toNat)=ji15:=qc9 hji15;have c16b0:=eq_true (of_decide_eq_true zaw:0≤(ji8));obtain⟨ji17,hji17⟩:∃ j_:Int,(shl .u64 a1 (ji8))=j_:=⟨_,rfl⟩;replace H:(if((ji10) / 4294967296)=0 then(none)else(bits_Div64.l0 k ji10 ji8 ((ji10) / 4294967296) (AE .and .u64 (ji10) 4294967295) (AE .or .u64 (ji12) (ji15)) ((ji17) / 4294967296) (AE .and .u64 (ji17) 4294967295) (Am.wrap (Bm (AE .or .u64 (ji12) (ji15)) ((ji10) / 4294967296))) (Am.wrap ((AE .or .u64 (ji12) (ji15)) - (Am.wrap ((Am.wrap (Bm (AE .or .u64 (ji12) (ji15)) ((ji10) / 4294967296)))*((ji10) / 4294967296)))))))=some (r1,r2):=by first | (rw [hji17]at H;exact H) | (simp only [hji17]at H ⊢;exact H)
      (try rw [hji17]at A7);have hji17_:(Am.wrap (a1*2 ^ min (ji8).toNat 64))=ji17:=hji17;have hji17z:(ji8)≤64→(Am.wrap (a1*2 ^ (ji8).toNat))=ji17:=qd9 hji17;by_cases c18:((ji10) / 4294967296)=0
      ·rw [if_pos c18]at H;exact absurd H (by simp)
      ·rw [if_neg c18]at H;have c18b0:(((ji10) / 4294967296) == 0)=false:=beq_eq_false_iff_ne.mpr c18;have c18b1:(((ji10) / 4294967296) !=0)=true:=bne_iff_ne.mpr c18;have HC19:=Aside0.mk H;clear H;go_enter Tryz.func170,Tryz.ntmps170;go_upto_block 0 with (first | (go_at_call 190;(with_reducible refine(bits_LeadingZeros64.calls a2 t313 _ A7.out).mono ?_);rintro e w' ⟨rfl,⟨nd,rfl⟩⟩;(try first | exact⟨rfl,_,BU _ _ _⟩ | exact⟨rfl,_,Eq.trans (BU _ _ _) (congrArg (World.drewN _) (Nat.add_assoc _ _ _))⟩)))
       repeat(go_quiet (first | (go_at_call 190;(with_reducible refine(bits_LeadingZeros64.calls a2 t313 _ A7.out).mono ?_);rintro e w' ⟨rfl,⟨nd,rfl⟩⟩;(try first | exact⟨rfl,_,BU _ _ _⟩ | exact⟨rfl,_,Eq.trans (BU _ _ _) (congrArg (World.drewN _) (Nat.add_assoc _ _ _))⟩)));go_upto_block 0 with (first | (go_at_call 190;(with_reducible refine(bits_LeadingZeros64.calls a2 t313 _ A7.out).mono ?_);rintro e w' ⟨rfl,⟨nd,rfl⟩⟩;(try first | exact⟨rfl,_,BU _ _ _⟩ | exact⟨rfl,_,Eq.trans (BU _ _ _) (congrArg (World.drewN _) (Nat.add_assoc _ _ _))⟩))))
       (try simp only [AP,Ap,Aw,Ax]);go_cut [15] (fun v15 wc=>∃ (kq:Nat) (x15_18:Int),v15= .int .u64 x15_18∧Aside0 (bits_Div64.j2 kq ji10 ji8 ((ji10) / 4294967296) (AE .and .u64 (ji10) 4294967295) (AE .or .u64 (ji12) (ji15)) ((ji17) / 4294967296) (AE .and .u64 (ji17) 4294967295) x15_18=some (r1,r2))∧Aside0 (kq≤k)∧Drawn0 w wc)
       case first=>
        have H:=HC19.out;clear HC19;have H':=Aside0.mk H;clear H;go_wp2
        repeat(go_quiet (fail);try go_wp2)
        go_loopg [15,16] k (fun kq v15 v16 w'=>∃ (x15_1:Int) (x16_1:Int),v15= .int .u64 x15_1∧v16= .int .u64 x16_1∧Aside0 (bits_Div64.l0 kq ji10 ji8 ((ji10) / 4294967296) (AE .and .u64 (ji10) 4294967295) (AE .or .u64 (ji12) (ji15)) ((ji17) / 4294967296) (AE .and .u64 (ji17) 4294967295) x15_1 x16_1=some (r1,r2))∧Aside0 (kq≤k)∧Drawn0 w w')
        case atStart=>exact⟨(Am.wrap (Bm (AE .or .u64 (ji12) (ji15)) ((ji10) / 4294967296))),(Am.wrap ((AE .or .u64 (ji12) (ji15)) - (Am.wrap ((Am.wrap (Bm (AE .or .u64 (ji12) (ji15)) ((ji10) / 4294967296)))*((ji10) / 4294967296))))),(by first | rfl | (simp;done) | (simp only [← hji10,← hji12,← hji15]<;>(first | rfl | simp)) | (simp [*];done)),(by first | rfl | (simp;done) | (simp only [← hji10,← hji12,← hji15]<;>(first | rfl | simp)) | (simp [*];done)),H',⟨Ag _⟩,zt⟩
        case round=>
         clear H'
         try clear c1
         try clear p2
         try clear c4
         try clear c4b0
         try clear c4b1
         try clear c5
         try clear c5b0
         try clear c6
         try clear c6b0
         try clear c6b1
         try clear c9
         try clear c9b0
         try clear c9b1
         try clear c11
         try clear c11b0
         try clear c14
         try clear c14b0
         try clear c14b1
         try clear c16
         try clear c16b0
         try clear c17
         try clear c18
         try clear c18b0
         try clear c18b1
         obtain⟨x15_1,x16_1,rfl,rfl,HA,HK1,⟨m1,rfl⟩⟩:=hrel
         cases gk with
         | zero=>exact absurd HA.out (by simp [bits_Div64.l0])
         | succ k1=>
          have H:=HA.out;clear HA;simp only [bits_Div64.l0]at H;have HC20:=Aside0.mk H;clear H;go_upto_region 17 with (fail)
          repeat(go_quiet (fail);go_upto_region 17 with (fail))
          go_cut [78] (fun v78 wc=>∃ (kq:Nat) (x78_19:Bool),v78= Ae x78_19∧Aside0 (bits_Div64.j1 kq ji10 ji8 ((ji10) / 4294967296) (AE .and .u64 (ji10) 4294967295) (AE .or .u64 (ji12) (ji15)) ((ji17) / 4294967296) (AE .and .u64 (ji17) 4294967295) x15_1 x16_1 x78_19=some (r1,r2))∧Aside0 (kq≤k1)∧Drawn0 w wc)
          case first=>
           have H:=HC20.out;clear HC20;by_cases c21:x15_1≥4294967296
           ·rw [if_pos c21]at H;have c21b0:decide (4294967296≤x15_1)=true:=decide_eq_true c21;clear c21
            (first | rw [c21b0] | (simp only [qm1];rw [c21b0]) | skip)
            have H':=Aside0.mk H;clear H;go_wp2
            repeat(go_quiet (fail);try go_wp2)
            go_meet
            case rel=>exact⟨_,(true),zq,H',⟨zbb⟩,zt⟩
           ·rw [if_neg c21]at H;have c21b0:decide (4294967296≤x15_1)=false:=decide_eq_false c21;clear c21
            (first | rw [c21b0] | (simp only [qm1];rw [c21b0]) | skip)
            have H':=Aside0.mk H;clear H;go_wp2
            repeat(go_quiet (fail);try go_wp2)
            go_meet
            case rel=>exact⟨_,(decide ((Am.wrap (x15_1*(AE .and .u64 (ji10) 4294967295)))>(Am.wrap ((Am.wrap (4294967296*x16_1))+((ji17) / 4294967296))))),(by first | rfl | (simp;done) | (simp only [← hji10,← hji17]<;>(first | rfl | simp)) | (simp [*];done)),H',⟨zbb⟩,zt⟩
          case rest=>
           clear HC20
           try clear c1
           try clear c2
           try clear p2
           try clear c4
           try clear c4b0
           try clear c4b1
           try clear c5
           try clear c5b0
           try clear c6
           try clear c6b0
           try clear c6b1
           try clear c9
           try clear c9b0
           try clear c9b1
           try clear c11
           try clear c11b0
           try clear c14
           try clear c14b0
           try clear c14b1
           try clear c16
           try clear c16b0
           try clear c17
           try clear c18
           try clear c18b0
           try clear c18b1
           try clear c21
           try clear c21b0
           try clear p2
           obtain⟨kq,x78_19,rfl,HA,HJ19,⟨mc19,rfl⟩⟩:=hcut
           cases kq with
           | zero=>exact absurd HA.out (by simp [bits_Div64.j1])
           | succ kj19=>
            have H:=HA.out;clear HA;simp only [bits_Div64.j1]at H;by_cases c22:x78_19=true
            ·subst c22;have H1:(if(Am.wrap (x16_1+((ji10) / 4294967296)))≥4294967296 then(bits_Div64.j2 kj19 ji10 ji8 ((ji10) / 4294967296) (AE .and .u64 (ji10) 4294967295) (AE .or .u64 (ji12) (ji15)) ((ji17) / 4294967296) (AE .and .u64 (ji17) 4294967295) (Am.wrap (x15_1 - 1)))else(bits_Div64.l0 kj19 ji10 ji8 ((ji10) / 4294967296) (AE .and .u64 (ji10) 4294967295) (AE .or .u64 (ji12) (ji15)) ((ji17) / 4294967296) (AE .and .u64 (ji17) 4294967295) (Am.wrap (x15_1 - 1)) (Am.wrap (x16_1+((ji10) / 4294967296)))))=some (r1,r2):=by rw [if_pos rfl]at H;exact H
             clear H;have H:=H1;clear H1;by_cases c23:(Am.wrap (x16_1+((ji10) / 4294967296)))≥4294967296
             ·rw [if_pos c23]at H;have c23b0:decide (4294967296≤(Am.wrap (x16_1+((ji10) / 4294967296))))=true:=decide_eq_true c23;clear c23;have H':=Aside0.mk H;clear H;go_wp2
              repeat(go_quiet (fail);try go_wp2)
              go_meet
              case rel=>exact⟨_,(Am.wrap (x15_1 - 1)),zq,H',⟨by have:=HK1.out;have:=HJ19.out;first | omega | exact Ag _⟩,zt⟩
             ·rw [if_neg c23]at H;have c23b0:decide (4294967296≤(Am.wrap (x16_1+((ji10) / 4294967296))))=false:=decide_eq_false c23;clear c23;have H':=Aside0.mk H;clear H;go_wp2
              repeat(go_quiet (fail);try go_wp2)
              go_roundg kj19
              case measure=>have:=HK1.out;have:=HJ19.out;omega
              case rel=>exact⟨(Am.wrap (x15_1 - 1)),(Am.wrap (x16_1+((ji10) / 4294967296))),zq,(by first | rfl | (simp;done) | (simp only [← hji10]<;>(first | rfl | simp)) | (simp [*];done)),H',⟨by have:=HK1.out;have:=HJ19.out;omega⟩,zt⟩
            ·replace c22:=AR.mpr c22;subst c22;have H1:(bits_Div64.j2 kj19 ji10 ji8 ((ji10) / 4294967296) (AE .and .u64 (ji10) 4294967295) (AE .or .u64 (ji12) (ji15)) ((ji17) / 4294967296) (AE .and .u64 (ji17) 4294967295) x15_1)=some (r1,r2):=by rw [if_neg (show ¬ (false=true) by decide)]at H;exact H
             clear H;have H:=H1;clear H1;have H':=Aside0.mk H;clear H;go_wp2
             repeat(go_quiet (fail);try go_wp2)
             go_meet
             case rel=>exact⟨_,(x15_1),zq,H',⟨by have:=HK1.out;have:=HJ19.out;first | omega | exact Ag _⟩,zt⟩
       case rest=>
        clear HC19
        try clear c1
        try clear c2
        try clear p2
        try clear c4
        try clear c4b0
        try clear c4b1
        try clear c5
        try clear c5b0
        try clear c6
        try clear c6b0
        try clear c6b1
        try clear c9
        try clear c9b0
        try clear c9b1
        try clear c11
        try clear c11b0
        try clear c14
        try clear c14b0
        try clear c14b1
        try clear c16
        try clear c16b0
        try clear c17
        try clear c18
        try clear c18b0
        try clear c18b1
        try clear c19
        try clear c21
        try clear c21b0
        try clear c22
        try clear c23
        try clear c23b0
        try clear p2
        obtain⟨kq,x15_18,rfl,HA,HJ18,⟨mc18,rfl⟩⟩:=hcut
        cases kq with
        | zero=>exact absurd HA.out (by simp [bits_Div64.j2])
        | succ kj18=>
         have H:=HA.out;clear HA;simp only [bits_Div64.j2]at H;by_cases c24:((ji10) / 4294967296)=0
         ·rw [if_pos c24]at H;exact absurd H (by simp)
         ·rw [if_neg c24]at H;have c24b0:(((ji10) / 4294967296) == 0)=false:=beq_eq_false_iff_ne.mpr c24;have c24b1:(((ji10) / 4294967296) !=0)=true:=bne_iff_ne.mpr c24;have H':=Aside0.mk H;clear H;go_wp2
          repeat(go_quiet (fail);try go_wp2)
          go_loopg [16,18] kj18 (fun kq v16 v18 w'=>∃ (x16_2:Int) (x18_2:Int),v16= .int .u64 x16_2∧v18= .int .u64 x18_2∧Aside0 (bits_Div64.l1 kq ji10 ji8 ((ji10) / 4294967296) (AE .and .u64 (ji10) 4294967295) (AE .and .u64 (ji17) 4294967295) x15_18 x16_2 (Am.wrap ((Am.wrap ((Am.wrap ((AE .or .u64 (ji12) (ji15))*4294967296))+((ji17) / 4294967296))) - (Am.wrap (x15_18*ji10)))) x18_2=some (r1,r2))∧Aside0 (kq≤kj18)∧Drawn0 w w')
          case atStart=>exact⟨(Am.wrap ((Am.wrap ((Am.wrap ((Am.wrap ((AE .or .u64 (ji12) (ji15))*4294967296))+((ji17) / 4294967296))) - (Am.wrap (x15_18*ji10)))) - (Am.wrap ((Am.wrap (Bm (Am.wrap ((Am.wrap ((Am.wrap ((AE .or .u64 (ji12) (ji15))*4294967296))+((ji17) / 4294967296))) - (Am.wrap (x15_18*ji10)))) ((ji10) / 4294967296)))*((ji10) / 4294967296))))),(Am.wrap (Bm (Am.wrap ((Am.wrap ((Am.wrap ((AE .or .u64 (ji12) (ji15))*4294967296))+((ji17) / 4294967296))) - (Am.wrap (x15_18*ji10)))) ((ji10) / 4294967296))),(by first | rfl | (simp;done) | (simp only [← hji10,← hji12,← hji15,← hji17]<;>(first | rfl | simp)) | (simp [*];done)),(by first | rfl | (simp;done) | (simp only [← hji10,← hji12,← hji15,← hji17]<;>(first | rfl | simp)) | (simp [*];done)),H',⟨Ag _⟩,zt⟩
          case round=>
           clear H'
           try clear c1
           try clear c2
           try clear p2
           try clear c4
           try clear c4b0
           try clear c4b1
           try clear c5
           try clear c5b0
           try clear c6
           try clear c6b0
           try clear c6b1
           try clear c9
           try clear c9b0
           try clear c9b1
           try clear c11
           try clear c11b0
           try clear c14
           try clear c14b0
           try clear c14b1
           try clear c16
           try clear c16b0
           try clear c17
           try clear c18
           try clear c18b0
           try clear c18b1
           try clear c19
           try clear c21
           try clear c21b0
           try clear c22
           try clear c23
           try clear c23b0
           try clear c24
           try clear c24b0
           try clear c24b1
           try clear p2
           obtain⟨x16_2,x18_2,rfl,rfl,HA,HK2,⟨m2,rfl⟩⟩:=hrel
           cases gk with
           | zero=>exact absurd HA.out (by simp [bits_Div64.l1])
           | succ k2=>
            have H:=HA.out;clear HA;simp only [bits_Div64.l1]at H;have HC25:=Aside0.mk H;clear H;go_upto_region 24 with (fail)
            repeat(go_quiet (fail);go_upto_region 24 with (fail))
            go_cut [113] (fun v113 wc=>∃ (kq:Nat) (x113_24:Bool),v113= Ae x113_24∧Aside0 (bits_Div64.j4 kq ji10 ji8 ((ji10) / 4294967296) (AE .and .u64 (ji10) 4294967295) (AE .and .u64 (ji17) 4294967295) x15_18 x16_2 (Am.wrap ((Am.wrap ((Am.wrap ((AE .or .u64 (ji12) (ji15))*4294967296))+((ji17) / 4294967296))) - (Am.wrap (x15_18*ji10)))) x18_2 x113_24=some (r1,r2))∧Aside0 (kq≤k2)∧Drawn0 w wc)
            case first=>
             have H:=HC25.out;clear HC25;by_cases c26:x18_2≥4294967296
             ·rw [if_pos c26]at H;have c26b0:decide (4294967296≤x18_2)=true:=decide_eq_true c26;clear c26
              (first | rw [c26b0] | (simp only [qm1];rw [c26b0]) | skip)
              have H':=Aside0.mk H;clear H;go_wp2
              repeat(go_quiet (fail);try go_wp2)
              go_meet
              case rel=>exact⟨_,(true),zq,H',⟨by have:=HJ18.out;have:=HK2.out;first | omega | exact Ag _⟩,zt⟩
             ·rw [if_neg c26]at H;have c26b0:decide (4294967296≤x18_2)=false:=decide_eq_false c26;clear c26
              (first | rw [c26b0] | (simp only [qm1];rw [c26b0]) | skip)
              have H':=Aside0.mk H;clear H;go_wp2
              repeat(go_quiet (fail);try go_wp2)
              go_meet
              case rel=>exact⟨_,(decide ((Am.wrap (x18_2*(AE .and .u64 (ji10) 4294967295)))>(Am.wrap ((Am.wrap (4294967296*x16_2))+(AE .and .u64 (ji17) 4294967295))))),(by first | rfl | (simp;done) | (simp only [← hji10,← hji17]<;>(first | rfl | simp)) | (simp [*];done)),H',⟨by have:=HJ18.out;have:=HK2.out;first | omega | exact Ag _⟩,zt⟩
            case rest=>
             clear HC25
             try clear c1
             try clear c2
             try clear p2
             try clear c4
             try clear c4b0
             try clear c4b1
             try clear c5
             try clear c5b0
             try clear c6
             try clear c6b0
             try clear c6b1
             try clear c9
             try clear c9b0
             try clear c9b1
             try clear c11
             try clear c11b0
             try clear c14
             try clear c14b0
             try clear c14b1
             try clear c16
             try clear c16b0
             try clear c17
             try clear c18
             try clear c18b0
             try clear c18b1
             try clear c19
             try clear c21
             try clear c21b0
             try clear c22
             try clear c23
             try clear c23b0
             try clear c24
             try clear c24b0
             try clear c24b1
             try clear c26
             try clear c26b0
             try clear p2
             obtain⟨kq,x113_24,rfl,HA,HJ24,⟨mc24,rfl⟩⟩:=hcut
             cases kq with
             | zero=>exact absurd HA.out (by simp [bits_Div64.j4])
             | succ kj24=>
              have H:=HA.out;clear HA;simp only [bits_Div64.j4]at H;by_cases c27:x113_24=true
              ·subst c27;have H1:(if(Am.wrap (x16_2+((ji10) / 4294967296)))≥4294967296 then(if 0≤ji8 then(some (Am.wrap ((Am.wrap (x15_18*4294967296))+(Am.wrap (x18_2 - 1))),shr .u64 (Am.wrap ((Am.wrap ((Am.wrap ((Am.wrap ((Am.wrap ((Am.wrap ((AE .or .u64 (ji12) (ji15))*4294967296))+((ji17) / 4294967296))) - (Am.wrap (x15_18*ji10))))*4294967296))+(AE .and .u64 (ji17) 4294967295))) - (Am.wrap ((Am.wrap (x18_2 - 1))*ji10)))) ji8))else(none))else(bits_Div64.l1 kj24 ji10 ji8 ((ji10) / 4294967296) (AE .and .u64 (ji10) 4294967295) (AE .and .u64 (ji17) 4294967295) x15_18 (Am.wrap (x16_2+((ji10) / 4294967296))) (Am.wrap ((Am.wrap ((Am.wrap ((AE .or .u64 (ji12) (ji15))*4294967296))+((ji17) / 4294967296))) - (Am.wrap (x15_18*ji10)))) (Am.wrap (x18_2 - 1))))=some (r1,r2):=by rw [if_pos rfl]at H;exact H
               clear H;have H:=H1;clear H1;by_cases c28:(Am.wrap (x16_2+((ji10) / 4294967296)))≥4294967296
               ·rw [if_pos c28]at H;have c28b0:decide (4294967296≤(Am.wrap (x16_2+((ji10) / 4294967296))))=true:=decide_eq_true c28;clear c28;by_cases c29:0≤ji8
                ·rw [if_pos c29]at H;have c29b0:=eq_true c29;have c29b1:decide (0≤ji8)=true:=decide_eq_true c29;clear c29;obtain⟨ji30,hji30⟩:∃ j_:Int,(shr .u64 (Am.wrap ((Am.wrap ((Am.wrap ((Am.wrap ((Am.wrap ((Am.wrap ((AE .or .u64 (ji12) (ji15))*4294967296))+((ji17) / 4294967296))) - (Am.wrap (x15_18*ji10))))*4294967296))+(AE .and .u64 (ji17) 4294967295))) - (Am.wrap ((Am.wrap (x18_2 - 1))*ji10)))) ji8)=j_:=⟨_,rfl⟩;replace H:(some (Am.wrap ((Am.wrap (x15_18*4294967296))+(Am.wrap (x18_2 - 1))),ji30))=some (r1,r2):=by first | (rw [hji30]at H;exact H) | (simp only [hji30]at H ⊢;exact H)
                 have hji30_:((Am.wrap ((Am.wrap ((Am.wrap ((Am.wrap ((Am.wrap ((Am.wrap ((AE .or .u64 (ji12) (ji15))*4294967296))+((ji17) / 4294967296))) - (Am.wrap (x15_18*ji10))))*4294967296))+(AE .and .u64 (ji17) 4294967295))) - (Am.wrap ((Am.wrap (x18_2 - 1))*ji10)))) / 2 ^ min ji8.toNat 64)=ji30:=hji30;have hji30z:ji8≤64→((Am.wrap ((Am.wrap ((Am.wrap ((Am.wrap ((Am.wrap ((Am.wrap ((AE .or .u64 (ji12) (ji15))*4294967296))+((ji17) / 4294967296))) - (Am.wrap (x15_18*ji10))))*4294967296))+(AE .and .u64 (ji17) 4294967295))) - (Am.wrap ((Am.wrap (x18_2 - 1))*ji10)))) / 2 ^ ji8.toNat)=ji30:=qc9 hji30;simp only [Ay.injEq,AU]at H;obtain⟨rfl,rfl⟩:=H;go_wp2
                 repeat(go_quiet (fail);try go_wp2)
                 go_ret2;exact⟨by first | rfl | (simp;done) | (simp only [← hji8,← hji10,← hji12,← hji13,← hji15,← hji17,← hji30]<;>(first | rfl | simp)) | (simp [*];done),zt⟩
                ·rw [if_neg c29]at H;exact absurd H (by simp)
               ·rw [if_neg c28]at H;have c28b0:decide (4294967296≤(Am.wrap (x16_2+((ji10) / 4294967296))))=false:=decide_eq_false c28;clear c28;have H':=Aside0.mk H;clear H;go_wp2
                repeat(go_quiet (fail);try go_wp2)
                go_roundg kj24
                case measure=>have:=HJ18.out;have:=HK2.out;have:=HJ24.out;omega
                case rel=>exact⟨(Am.wrap (x16_2+((ji10) / 4294967296))),(Am.wrap (x18_2 - 1)),(by first | rfl | (simp;done) | (simp only [← hji10]<;>(first | rfl | simp)) | (simp [*];done)),zq,H',⟨by have:=HJ18.out;have:=HK2.out;have:=HJ24.out;omega⟩,zt⟩
              ·replace c27:=AR.mpr c27;subst c27;have H1:(if 0≤ji8 then(some (Am.wrap ((Am.wrap (x15_18*4294967296))+x18_2),shr .u64 (Am.wrap ((Am.wrap ((Am.wrap ((Am.wrap ((Am.wrap ((Am.wrap ((AE .or .u64 (ji12) (ji15))*4294967296))+((ji17) / 4294967296))) - (Am.wrap (x15_18*ji10))))*4294967296))+(AE .and .u64 (ji17) 4294967295))) - (Am.wrap (x18_2*ji10)))) ji8))else(none))=some (r1,r2):=by rw [if_neg (show ¬ (false=true) by decide)]at H;exact H
               clear H;have H:=H1;clear H1;by_cases c31:0≤ji8
               ·rw [if_pos c31]at H;have c31b0:=eq_true c31;have c31b1:decide (0≤ji8)=true:=decide_eq_true c31;clear c31;obtain⟨ji32,hji32⟩:∃ j_:Int,(shr .u64 (Am.wrap ((Am.wrap ((Am.wrap ((Am.wrap ((Am.wrap ((Am.wrap ((AE .or .u64 (ji12) (ji15))*4294967296))+((ji17) / 4294967296))) - (Am.wrap (x15_18*ji10))))*4294967296))+(AE .and .u64 (ji17) 4294967295))) - (Am.wrap (x18_2*ji10)))) ji8)=j_:=⟨_,rfl⟩;replace H:(some (Am.wrap ((Am.wrap (x15_18*4294967296))+x18_2),ji32))=some (r1,r2):=by first | (rw [hji32]at H;exact H) | (simp only [hji32]at H ⊢;exact H)
                have hji32_:((Am.wrap ((Am.wrap ((Am.wrap ((Am.wrap ((Am.wrap ((Am.wrap ((AE .or .u64 (ji12) (ji15))*4294967296))+((ji17) / 4294967296))) - (Am.wrap (x15_18*ji10))))*4294967296))+(AE .and .u64 (ji17) 4294967295))) - (Am.wrap (x18_2*ji10)))) / 2 ^ min ji8.toNat 64)=ji32:=hji32;have hji32z:ji8≤64→((Am.wrap ((Am.wrap ((Am.wrap ((Am.wrap ((Am.wrap ((Am.wrap ((AE .or .u64 (ji12) (ji15))*4294967296))+((ji17) / 4294967296))) - (Am.wrap (x15_18*ji10))))*4294967296))+(AE .and .u64 (ji17) 4294967295))) - (Am.wrap (x18_2*ji10)))) / 2 ^ ji8.toNat)=ji32:=qc9 hji32;simp only [Ay.injEq,AU]at H;obtain⟨rfl,rfl⟩:=H;go_wp2
                repeat(go_quiet (fail);try go_wp2)
                go_ret2;exact⟨by first | rfl | (simp;done) | (simp only [← hji8,← hji10,← hji12,← hji13,← hji15,← hji17,← hji32]<;>(first | rfl | simp)) | (simp [*];done),zt⟩
               ·rw [if_neg c31]at H;exact absurd H (by simp)
     ·rw [if_neg c14]at H;exact absurd H (by simp)
    ·rw [if_neg c9]at H;exact absurd H (by simp)
end Go.Proofs.YtocdckniokhbbaaGreatDoor.PF
