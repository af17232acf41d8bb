import Derived.Test.YtocdckniokhbbaaGreatDoorZkZz
import Derived.Test.YtocdckniokhbbaaGreatDoorProg
import Derived.Below
import Derived.Deep.Draws
import Derived.Deep.AppendLies
import Derived.Maps.AppendAt
import Derived.OwnWalk
import Derived.Laws.BytesArg
import Derived.Laws.MakeOwn
import Derived.Laws.OwnMore
import Derived.Deep.OwnRows
import Derived.Tactics
import Derived.Lib.ConvBytes
import Derived.Laws.Slices
import Derived.WalkKit
import Derived.KernelRfl
import Derived.RowKit3
import Derived.Deep.LoopGhost
import Derived.Deep.QuietTactic
import Derived.BigQuiet
import Derived.WideLaws
import Derived.Deep.DeepCutAuto
import Derived.Deep.CutBlock
import Derived.Deep.RegionHeld3
import Derived.Laws.Rows
import Derived.Lib.AppendStr
import Derived.ArgAppend
import Derived.Laws.IdiomCopy
import Derived.OrdersHeld
import Derived.Laws.BitsLemmas
import Derived.RowKit
import Derived.Test.YtocdckniokhbbaaGreatDoorZkPFx1
import Derived.RegionTactic
import Derived.ChangeAlike
import Derived.BigRegion
import Derived.Great.BuildSlice
import Derived.Deep.WholeRow
import Derived.Test.YtocdckniokhbbaaGreatDoorZkWWords
import Derived.Test.YtocdckniokhbbaaGreatDoorZkWLast
import Derived.Laws.StructEq
import Derived.Test.YtocdckniokhbbaaGreatDoorZkWMore
set_option linter.unusedVariables false
set_option linter.unusedSimpArgs false
open Go.IntKind renaming u64→Am,i64→Ab
open Go renaming bits→AE
open Go.Proofs.Tryz renaming prog→Aj,underlying24→AC
open Option renaming some→Ay,bind_eq_some_iff→AB
open Prod.mk renaming injEq→AU
open Go.Value renaming int→Aa,bool→Ae
open Go.RowKit.Below renaming refl→Ao
open List renaming setIfInBounds_toArray→Ap,set_cons_zero→Aw,set_cons_succ→Ax
open Go.Act renaming put→AP
open Bool renaming eq_false_iff→AR
open Nat renaming le_refl→Ag,ne_of_gt→Bc,ne_of_lt→Bg
set_option maxHeartbeats 8000000
set_option maxRecDepth 100000
namespace Go.Proofs.YtocdckniokhbbaaGreatDoor.PF
open Go.RowKit YtocdckniokhbbaaGreatDoorW.PrintWords YtocdckniokhbbaaGreatDoorW.PrintLast YtocdckniokhbbaaGreatDoorW.PrintMore
attribute [local go_sem] qw3 qt4
def bits_Mul64.f (a0:Int) (a1:Int):Option (Int × Int):=some (Am.wrap ((Am.wrap ((Am.wrap ((a0 / 4294967296)*(a1 / 4294967296)))+((Am.wrap ((Am.wrap ((a0 / 4294967296)*(AE .and .u64 a1 4294967295)))+((Am.wrap ((AE .and .u64 a0 4294967295)*(AE .and .u64 a1 4294967295))) / 4294967296))) / 4294967296)))+((Am.wrap ((AE .and .u64 (Am.wrap ((Am.wrap ((a0 / 4294967296)*(AE .and .u64 a1 4294967295)))+((Am.wrap ((AE .and .u64 a0 4294967295)*(AE .and .u64 a1 4294967295))) / 4294967296))) 4294967295)+(Am.wrap ((AE .and .u64 a0 4294967295)*(a1 / 4294967296))))) / 4294967296)),Am.wrap (a0*a1))
theorem bits_Mul64.calls (a0:Int) (a1:Int) (r1:Int) (r2:Int) (w:World) (h:bits_Mul64.f a0 a1=some (r1,r2)) :
  Calls Aj 167 #[.int .u64 a0,.int .u64 a1] w fun e w'=>e= .returned (.tuple #[.int .u64 r1,.int .u64 r2])∧Drawn0 w w':=by
 have H:(some (Am.wrap ((Am.wrap ((Am.wrap ((a0 / 4294967296)*(a1 / 4294967296)))+((Am.wrap ((Am.wrap ((a0 / 4294967296)*(AE .and .u64 a1 4294967295)))+((Am.wrap ((AE .and .u64 a0 4294967295)*(AE .and .u64 a1 4294967295))) / 4294967296))) / 4294967296)))+((Am.wrap ((AE .and .u64 (Am.wrap ((Am.wrap ((a0 / 4294967296)*(AE .and .u64 a1 4294967295)))+((Am.wrap ((AE .and .u64 a0 4294967295)*(AE .and .u64 a1 4294967295))) / 4294967296))) 4294967295)+(Am.wrap ((AE .and .u64 a0 4294967295)*(a1 / 4294967296))))) / 4294967296)),Am.wrap (a0*a1)))=some (r1,r2):=h;clear h;simp only [Ay.injEq,AU]at H;obtain⟨rfl,rfl⟩:=H;go_enter Tryz.func167,Tryz.ntmps167;go_wp2;go_ret2;exact⟨zq,zt⟩
def dec_under.f:Option (Int × Int):=some (3,0)
theorem dec_under.calls (r1:Int) (r2:Int) (w:World) (h:dec_under.f=some (r1,r2)) :
  Calls Aj 153 #[] w fun e w'=>e= .returned (.agg #[Aa Ab r1,Aa Ab r2])∧Below w.heap.size w w':=by
 have hu24:=AC;have HB:=Aside0.mk (Ao w.heap.size w);have H:(some (3,0))=some (r1,r2):=h;clear h;simp only [Ay.injEq,AU]at H;obtain⟨rfl,rfl⟩:=H;go_enter Tryz.func153,Tryz.ntmps153;go_wp2_with (first | ((with_reducible refine qc1 (N:=0) rfl ?_);refine qa1 ?hg (N:=0) ?hd (cs:= #[Aa Ab 0,Aa Ab 0]) (t:=24) ?hr ?_;(case hd=>rfl);(case hg=>rfl);(case hr=>first | (go_simp;done) | (go_simp;rfl));intro gb263 hg w1 hbox hb;have BK263:=Aside0.mk (hbox);have GW263:=Aside0.mk ((by rw [hg];exact(qu zj):w.heap.size≤gb263));have GE263:=Aside0.mk ((by rw [hg];exact(qu zj):w.heap.size≤gb263));replace HB:=Aside0.mk (qw zj hb);clear hb hbox hg;have hcz2_0:w1.cell? ⟨gb263,0,none⟩=some (Aa Ab 0):=(qm BK263.out 0).trans rfl;have hcz2_1:w1.cell? ⟨gb263,1,none⟩=some (Aa Ab 0):=(qm BK263.out 1).trans rfl;have hfz2_0:=qe BK263.out 0;have hfz2_1:=qe BK263.out 1))
 refine bodyPost_ret (results_cell_row rfl _ _ gb263 24 #[Aa Ab 3,Aa Ab 0] (0,0) _ rfl (by(with_reducible repeat(first | refine qi ?_ _ | refine qj ?_ | refine qb ?_ _));refine qk (cs:= #[Aa Ab 3,Aa Ab 0]) ?_ 1 _ rfl;(with_reducible repeat(first | refine qi ?_ _ | refine qj ?_ | refine qb ?_ _));refine qk (cs:= #[Aa Ab 0,Aa Ab 0]) ?_ 0 _ rfl;(with_reducible repeat(first | refine qi ?_ _ | refine qj ?_ | refine qb ?_ _));exact BK263.out) AC rfl zm) rfl ?_;exact⟨zo,by repeat(first | (with_reducible first | exact HB.out | apply qg | apply qc | apply qh | refine ql ?_ GE263.out) | exact HB.out)⟩
def dec_size.f (a0_0:Int) (a0_1:Int):Option (Int):=if a0_1<0 then(some (Am.wrap (wrap64 (-a0_1))))else(some (Am.wrap (a0_1)))
theorem dec_size.calls (a0_0:Int) (a0_1:Int) (r:Int) (w:World) (h:dec_size.f a0_0 a0_1=some r) :
  Calls Aj 168 #[.agg #[Aa Ab a0_0,Aa Ab a0_1]] w fun e w'=>e= .returned (.int .u64 r)∧Below w.heap.size w w':=by
 have hu24:=AC;have HB:=Aside0.mk (Ao w.heap.size w);have H:(if a0_1<0 then(some (Am.wrap (wrap64 (-a0_1))))else(some (Am.wrap (a0_1))))=some r:=h;clear h;by_cases c2:a0_1<0
 ·rw [if_pos c2]at H;have c2b0:decide (a0_1<0)=true:=decide_eq_true c2;clear c2;obtain rfl:=Ay.inj H;go_enter Tryz.func168,Tryz.ntmps168;go_wp2_with (first | ((with_reducible refine qc1 (N:=1) rfl ?_);refine qa1 ?hg (N:=1) ?hd (cs:= #[Aa Ab a0_0,Aa Ab a0_1]) (t:=24) ?hr ?_;(case hd=>rfl);(case hg=>rfl);(case hr=>first | (go_simp;done) | (go_simp;rfl));intro gb264 hg w3 hbox hb;have BK264:=Aside0.mk (hbox);have GW264:=Aside0.mk ((by rw [hg];exact(qu zj):w.heap.size≤gb264));have GE264:=Aside0.mk ((by rw [hg];exact(qu zj):w.heap.size≤gb264));replace HB:=Aside0.mk (qw zj hb);clear hb hbox hg;have hcz4_0:w3.cell? ⟨gb264,0,none⟩=some (Aa Ab a0_0):=(qm BK264.out 0).trans rfl;have hcz4_1:w3.cell? ⟨gb264,1,none⟩=some (Aa Ab a0_1):=(qm BK264.out 1).trans rfl;have hfz4_0:=qe BK264.out 0;have hfz4_1:=qe BK264.out 1))
  go_ret;exact⟨zo,by repeat(first | (with_reducible first | exact HB.out | apply qg | apply qc | apply qh | refine ql ?_ GE264.out) | exact HB.out)⟩
 ·rw [if_neg c2]at H;have c2b0:decide (a0_1<0)=false:=decide_eq_false c2;clear c2;obtain rfl:=Ay.inj H;go_enter Tryz.func168,Tryz.ntmps168;go_wp2_with (first | ((with_reducible refine qc1 (N:=1) rfl ?_);refine qa1 ?hg (N:=1) ?hd (cs:= #[Aa Ab a0_0,Aa Ab a0_1]) (t:=24) ?hr ?_;(case hd=>rfl);(case hg=>rfl);(case hr=>first | (go_simp;done) | (go_simp;rfl));intro gb264 hg w5 hbox hb;have BK264:=Aside0.mk (hbox);have GW264:=Aside0.mk ((by rw [hg];exact(qu zj):w.heap.size≤gb264));have GE264:=Aside0.mk ((by rw [hg];exact(qu zj):w.heap.size≤gb264));replace HB:=Aside0.mk (qw zj hb);clear hb hbox hg;have hcz6_0:w5.cell? ⟨gb264,0,none⟩=some (Aa Ab a0_0):=(qm BK264.out 0).trans rfl;have hcz6_1:w5.cell? ⟨gb264,1,none⟩=some (Aa Ab a0_1):=(qm BK264.out 1).trans rfl;have hfz6_0:=qe BK264.out 0;have hfz6_1:=qe BK264.out 1))
  go_ret;exact⟨zo,by repeat(first | (with_reducible first | exact HB.out | apply qg | apply qc | apply qh | refine ql ?_ GE264.out) | exact HB.out)⟩
def dec_over.f:Option (Int × Int):=some (2,0)
theorem dec_over.calls (r1:Int) (r2:Int) (w:World) (h:dec_over.f=some (r1,r2)) :
  Calls Aj 162 #[] w fun e w'=>e= .returned (.agg #[Aa Ab r1,Aa Ab r2])∧Below w.heap.size w w':=by
 have hu24:=AC;have HB:=Aside0.mk (Ao w.heap.size w);have H:(some (2,0))=some (r1,r2):=h;clear h;simp only [Ay.injEq,AU]at H;obtain⟨rfl,rfl⟩:=H;go_enter Tryz.func162,Tryz.ntmps162;go_wp2_with (first | ((with_reducible refine qc1 (N:=0) rfl ?_);refine qa1 ?hg (N:=0) ?hd (cs:= #[Aa Ab 0,Aa Ab 0]) (t:=24) ?hr ?_;(case hd=>rfl);(case hg=>rfl);(case hr=>first | (go_simp;done) | (go_simp;rfl));intro gb265 hg w1 hbox hb;have BK265:=Aside0.mk (hbox);have GW265:=Aside0.mk ((by rw [hg];exact(qu zj):w.heap.size≤gb265));have GE265:=Aside0.mk ((by rw [hg];exact(qu zj):w.heap.size≤gb265));replace HB:=Aside0.mk (qw zj hb);clear hb hbox hg;have hcz2_0:w1.cell? ⟨gb265,0,none⟩=some (Aa Ab 0):=(qm BK265.out 0).trans rfl;have hcz2_1:w1.cell? ⟨gb265,1,none⟩=some (Aa Ab 0):=(qm BK265.out 1).trans rfl;have hfz2_0:=qe BK265.out 0;have hfz2_1:=qe BK265.out 1))
 refine bodyPost_ret (results_cell_row rfl _ _ gb265 24 #[Aa Ab 2,Aa Ab 0] (0,0) _ rfl (by(with_reducible repeat(first | refine qi ?_ _ | refine qj ?_ | refine qb ?_ _));refine qk (cs:= #[Aa Ab 2,Aa Ab 0]) ?_ 1 _ rfl;(with_reducible repeat(first | refine qi ?_ _ | refine qj ?_ | refine qb ?_ _));refine qk (cs:= #[Aa Ab 0,Aa Ab 0]) ?_ 0 _ rfl;(with_reducible repeat(first | refine qi ?_ _ | refine qj ?_ | refine qb ?_ _));exact BK265.out) AC rfl zm) rfl ?_;exact⟨zo,by repeat(first | (with_reducible first | exact HB.out | apply qg | apply qc | apply qh | refine ql ?_ GE265.out) | exact HB.out)⟩
mutual
def dec_signed.j0:Nat→Bool→Bool→Int→Bool→Option (Int × Int)
 | 0,_,_,_,_=>none
 | k+1,x0,x1,x2,x7=>if x7=true then(some (0,wrap64 (-(wrap64 (x2)))))else(if x1=true then(dec_signed.j1 k x0 x2 false)else(dec_signed.j1 k x0 x2 (decide (x2≤9223372036854775807))))
def dec_signed.j1:Nat→Bool→Int→Bool→Option (Int × Int)
 | 0,_,_,_=>none
 | k+1,x0,x2,x21=>if x21=true then(some (0,wrap64 (x2)))else(if x0=true then((dec_under.f).bind fun bt267=>(some (bt267.1,bt267.2)))else((dec_over.f).bind fun bt269=>(some (bt269.1,bt269.2))))
end
def dec_signed.f (k:Nat) (a0:Bool) (a1:Bool) (a2:Int):Option (Int × Int):=if a1=true then(dec_signed.j0 k a0 a1 a2 false)else(if a2≤9223372036854775807 then(dec_signed.j0 k a0 a1 a2 a0)else(dec_signed.j0 k a0 a1 a2 false))
theorem dec_signed.calls (k:Nat) (a0:Bool) (a1:Bool) (a2:Int) (r1:Int) (r2:Int) (w:World) (h:dec_signed.f k a0 a1 a2=some (r1,r2)) :
  Calls Aj 169 #[Ae a0,Ae a1,.int .u64 a2] w fun e w'=>e= .returned (.agg #[Aa Ab r1,Aa Ab r2])∧Below w.heap.size w w':=by
 have hu24:=AC;have HB:=Aside0.mk (Ao w.heap.size w);have H:(if a1=true then(dec_signed.j0 k a0 a1 a2 false)else(if a2≤9223372036854775807 then(dec_signed.j0 k a0 a1 a2 a0)else(dec_signed.j0 k a0 a1 a2 false)))=some (r1,r2):=h;clear h;have HC4:=Aside0.mk H;clear H;go_enter Tryz.func169,Tryz.ntmps169;go_upto_region 1 with (first | ((with_reducible refine qc1 (N:=6) rfl ?_);refine qa1 ?hg (N:=6) ?hd (cs:= #[Aa Ab 0,Aa Ab 0]) (t:=24) ?hr ?_;(case hd=>rfl);(case hg=>rfl);(case hr=>first | (go_simp;done) | (go_simp;rfl));intro gb266 hg w5 hbox hb;have BK266:=Aside0.mk (hbox);have GW266:=Aside0.mk ((by rw [hg];exact(qu zj):w.heap.size≤gb266));have GE266:=Aside0.mk ((by rw [hg];exact(qu zj):w.heap.size≤gb266));replace HB:=Aside0.mk (qw zj hb);clear hb hbox hg))
 (try simp only [AP,Ap,Aw,Ax]);go_cut [7] (fun v7 wc=>∃ (kq:Nat) (x7_3:Bool),v7= Ae x7_3∧Aside0 (dec_signed.j0 kq a0 a1 a2 x7_3=some (r1,r2))∧Aside0 (kq≤k)∧Aside0 (wc.heap[gb266]?=some (.cells #[Aa Ab 0,Aa Ab 0] 24 (0,0)))∧Aside0 (Below w.heap.size w wc))
 case first=>
  have H:=HC4.out;clear HC4;by_cases c6:a1=true
  ·subst c6;have H1:(dec_signed.j0 k a0 true a2 false)=some (r1,r2):=by rw [if_pos rfl]at H;exact H
   clear H;have H:=H1;clear H1;have H':=Aside0.mk H;clear H;go_wp2;go_meet
   case rel=>exact⟨_,(false),zq,H',⟨zas⟩,⟨zar⟩,⟨zw⟩⟩
  ·replace c6:=AR.mpr c6;subst c6;have H1:(if a2≤9223372036854775807 then(dec_signed.j0 k a0 false a2 a0)else(dec_signed.j0 k a0 false a2 false))=some (r1,r2):=by rw [if_neg (show ¬ (false=true) by decide)]at H;exact H
   clear H;have H:=H1;clear H1;by_cases c7:a2≤9223372036854775807
   ·rw [if_pos c7]at H;have c7b0:decide (a2≤9223372036854775807)=true:=decide_eq_true c7;clear c7
    (first | rw [c7b0] | (simp only [qm1];rw [c7b0]) | skip)
    have H':=Aside0.mk H;clear H;go_wp2;go_meet
    case rel=>exact⟨_,(a0),zq,H',⟨zas⟩,⟨zar⟩,⟨zw⟩⟩
   ·rw [if_neg c7]at H;have c7b0:decide (a2≤9223372036854775807)=false:=decide_eq_false c7;clear c7
    (first | rw [c7b0] | (simp only [qm1];rw [c7b0]) | skip)
    have H':=Aside0.mk H;clear H;go_wp2;go_meet
    case rel=>exact⟨_,(false),zq,H',⟨zas⟩,⟨zar⟩,⟨zw⟩⟩
 case rest=>
  clear HC4
  try clear c1
  try clear p2
  try clear c6
  try clear c7
  try clear c7b0
  obtain⟨kq,x7_3,rfl,HA,HJ3,BK266,HB⟩:=hcut
  cases kq with
  | zero=>exact absurd HA.out (by simp [dec_signed.j0])
  | succ kj3=>
   have H:=HA.out;clear HA;simp only [dec_signed.j0]at H;by_cases c8:x7_3=true
   ·subst c8;have H1:(some (0,wrap64 (-(wrap64 (a2)))))=some (r1,r2):=by rw [if_pos rfl]at H;exact H
    clear H;have H:=H1;clear H1;simp only [Ay.injEq,AU]at H;obtain⟨rfl,rfl⟩:=H;have hcz9_0:wc.cell? ⟨gb266,0,none⟩=some (Aa Ab 0):=(qm BK266.out 0).trans rfl;have hcz9_1:wc.cell? ⟨gb266,1,none⟩=some (Aa Ab 0):=(qm BK266.out 1).trans rfl;have hfz9_0:=qe BK266.out 0;have hfz9_1:=qe BK266.out 1;go_wp2;refine bodyPost_ret (results_cell_row rfl _ _ gb266 24 #[Aa Ab 0,Aa Ab (wrap64 (-(wrap64 (a2))))] (0,0) _ rfl (zb BK266.out) AC rfl zm) rfl ?_;exact⟨zo,zw⟩
   ·replace c8:=AR.mpr c8;subst c8;have H1:(if a1=true then(dec_signed.j1 kj3 a0 a2 false)else(dec_signed.j1 kj3 a0 a2 (decide (a2≤9223372036854775807))))=some (r1,r2):=by rw [if_neg (show ¬ (false=true) by decide)]at H;exact H
    clear H;have H:=H1;clear H1;have HC10:=Aside0.mk H;clear H;go_upto_region 3 with (fail)
    go_cut [21] (fun v21 wc=>∃ (kq:Nat) (x21_9:Bool),v21= Ae x21_9∧Aside0 (dec_signed.j1 kq a0 a2 x21_9=some (r1,r2))∧Aside0 (kq≤kj3)∧Aside0 (wc.heap[gb266]?=some (.cells #[Aa Ab 0,Aa Ab 0] 24 (0,0)))∧Aside0 (Below w.heap.size w wc))
    case first=>
     have H:=HC10.out;clear HC10;by_cases c11:a1=true
     ·subst c11;have H1:(dec_signed.j1 kj3 a0 a2 false)=some (r1,r2):=by rw [if_pos rfl]at H;exact H
      clear H;have H:=H1;clear H1;have H':=Aside0.mk H;clear H;go_wp2;go_meet
      case rel=>exact⟨_,(false),zq,H',⟨by have:=HJ3.out;first | omega | exact Ag _⟩,⟨zar⟩,⟨zw⟩⟩
     ·replace c11:=AR.mpr c11;subst c11;have H1:(dec_signed.j1 kj3 a0 a2 (decide (a2≤9223372036854775807)))=some (r1,r2):=by rw [if_neg (show ¬ (false=true) by decide)]at H;exact H
      clear H;have H:=H1;clear H1;have H':=Aside0.mk H;clear H;go_wp2;go_meet
      case rel=>exact⟨_,(decide (a2≤9223372036854775807)),zq,H',⟨by have:=HJ3.out;first | omega | exact Ag _⟩,⟨zar⟩,⟨zw⟩⟩
    case rest=>
     clear HC10
     try clear c1
     try clear p2
     try clear c6
     try clear p6
     try clear c7
     try clear c7b0
     try clear c8
     try clear c11
     try clear hcz9_0
     try clear hcz9_1
     try clear hfz9_0
     try clear hfz9_1
     try clear p2
     obtain⟨kq,x21_9,rfl,HA,HJ9,BK266,HB⟩:=hcut
     cases kq with
     | zero=>exact absurd HA.out (by simp [dec_signed.j1])
     | succ kj9=>
      have H:=HA.out;clear HA;simp only [dec_signed.j1]at H;by_cases c12:x21_9=true
      ·subst c12;have H1:(some (0,wrap64 (a2)))=some (r1,r2):=by rw [if_pos rfl]at H;exact H
       clear H;have H:=H1;clear H1;simp only [Ay.injEq,AU]at H;obtain⟨rfl,rfl⟩:=H;have hcz13_0:wc.cell? ⟨gb266,0,none⟩=some (Aa Ab 0):=(qm BK266.out 0).trans rfl;have hcz13_1:wc.cell? ⟨gb266,1,none⟩=some (Aa Ab 0):=(qm BK266.out 1).trans rfl;have hfz13_0:=qe BK266.out 0;have hfz13_1:=qe BK266.out 1;go_wp2;refine bodyPost_ret (results_cell_row rfl _ _ gb266 24 #[Aa Ab 0,Aa Ab (wrap64 (a2))] (0,0) _ rfl (zb BK266.out) AC rfl zm) rfl ?_;exact⟨zo,zw⟩
      ·replace c12:=AR.mpr c12;subst c12;have H1:(if a0=true then((dec_under.f).bind fun bt267=>(some (bt267.1,bt267.2)))else((dec_over.f).bind fun bt269=>(some (bt269.1,bt269.2))))=some (r1,r2):=by rw [if_neg (show ¬ (false=true) by decide)]at H;exact H
       clear H;have H:=H1;clear H1;by_cases c14:a0=true
       ·subst c14;have H1:((dec_under.f).bind fun bt267=>(some (bt267.1,bt267.2)))=some (r1,r2):=by rw [if_pos rfl]at H;exact H
        clear H;have H:=H1;clear H1;replace H:=AB.mp H;obtain⟨⟨t267,t268⟩,A150,H⟩:=H;replace H:(some (t267,t268))=some (r1,r2):=H;have A15:=Aside0.mk A150;clear A150;simp only [Ay.injEq,AU]at H;obtain⟨rfl,rfl⟩:=H;go_wp2_with (first | ((with_reducible refine qi1 (f:=153) rfl ?_);refine qr2 (some 33) rfl rfl Tryz.func153 zm rfl #[] rfl zk ?_;(with_reducible refine(dec_under.calls t267 t268 _ A15.out).mono ?_);rintro e w16 ⟨rfl,hb⟩;refine⟨_,rfl,?_⟩;replace BK266:=Aside0.mk (qn (g:=gb266) (o:= .cells #[Aa Ab 0,Aa Ab 0] 24 (0,0)) (za BK266.out) hb);replace HB:=Aside0.mk (qw zw hb);(try clear hb);(try clear hb2);(try clear hk);(try clear hi);have hcz17_0:w16.cell? ⟨gb266,0,none⟩=some (Aa Ab 0):=(qm BK266.out 0).trans rfl;have hcz17_1:w16.cell? ⟨gb266,1,none⟩=some (Aa Ab 0):=(qm BK266.out 1).trans rfl;have hfz17_0:=qe BK266.out 0;have hfz17_1:=qe BK266.out 1))
        refine bodyPost_ret (results_cell_row rfl _ _ gb266 24 #[Aa Ab t267,Aa Ab t268] (0,0) _ rfl (by(with_reducible repeat(first | refine qi ?_ _ | refine qj ?_ | refine qb ?_ _));refine qk (cs:= #[Aa Ab t267,Aa Ab 0]) ?_ 1 _ rfl;(with_reducible repeat(first | refine qi ?_ _ | refine qj ?_ | refine qb ?_ _));refine qk (cs:= #[Aa Ab 0,Aa Ab 0]) ?_ 0 _ rfl;(with_reducible repeat(first | refine qi ?_ _ | refine qj ?_ | refine qb ?_ _));exact BK266.out) AC rfl zm) rfl ?_;exact⟨zo,zw⟩
       ·replace c14:=AR.mpr c14;subst c14;have H1:((dec_over.f).bind fun bt269=>(some (bt269.1,bt269.2)))=some (r1,r2):=by rw [if_neg (show ¬ (false=true) by decide)]at H;exact H
        clear H;have H:=H1;clear H1;replace H:=AB.mp H;obtain⟨⟨t269,t270⟩,A180,H⟩:=H;replace H:(some (t269,t270))=some (r1,r2):=H;have A18:=Aside0.mk A180;clear A180;simp only [Ay.injEq,AU]at H;obtain⟨rfl,rfl⟩:=H;go_wp2_with (first | ((with_reducible refine qi1 (f:=162) rfl ?_);refine qr2 (some 34) rfl rfl Tryz.func162 zm rfl #[] rfl zk ?_;(with_reducible refine(dec_over.calls t269 t270 _ A18.out).mono ?_);rintro e w19 ⟨rfl,hb⟩;refine⟨_,rfl,?_⟩;replace BK266:=Aside0.mk (qn (g:=gb266) (o:= .cells #[Aa Ab 0,Aa Ab 0] 24 (0,0)) (za BK266.out) hb);replace HB:=Aside0.mk (qw zw hb);(try clear hb);(try clear hb2);(try clear hk);(try clear hi);have hcz20_0:w19.cell? ⟨gb266,0,none⟩=some (Aa Ab 0):=(qm BK266.out 0).trans rfl;have hcz20_1:w19.cell? ⟨gb266,1,none⟩=some (Aa Ab 0):=(qm BK266.out 1).trans rfl;have hfz20_0:=qe BK266.out 0;have hfz20_1:=qe BK266.out 1))
        refine bodyPost_ret (results_cell_row rfl _ _ gb266 24 #[Aa Ab t269,Aa Ab t270] (0,0) _ rfl (by(with_reducible repeat(first | refine qi ?_ _ | refine qj ?_ | refine qb ?_ _));refine qk (cs:= #[Aa Ab t269,Aa Ab 0]) ?_ 1 _ rfl;(with_reducible repeat(first | refine qi ?_ _ | refine qj ?_ | refine qb ?_ _));refine qk (cs:= #[Aa Ab 0,Aa Ab 0]) ?_ 0 _ rfl;(with_reducible repeat(first | refine qi ?_ _ | refine qj ?_ | refine qb ?_ _));exact BK266.out) AC rfl zm) rfl ?_;exact⟨zo,zw⟩
def dec_times.f (k:Nat) (a0:Int):Option (Int × Int):=(dec_size.f 0 a0).bind fun t273=>((bits_Mul64.f t273 1000000).bind fun bt274=>((dec_signed.f k (decide (a0<0)) (bt274.1 !=0) bt274.2).bind fun bt276=>(some (bt276.1,bt276.2))))
theorem dec_times.calls (k:Nat) (a0:Int) (r1:Int) (r2:Int) (w:World) (h:dec_times.f k a0=some (r1,r2)) :
  Calls Aj 154 #[Aa Ab a0] w fun e w'=>e= .returned (.agg #[Aa Ab r1,Aa Ab r2])∧Below w.heap.size w w':=by
 have hu24:=AC;have HB:=Aside0.mk (Ao w.heap.size w);have H:((dec_size.f 0 a0).bind fun t273=>((bits_Mul64.f t273 1000000).bind fun bt274=>((dec_signed.f k (decide (a0<0)) (bt274.1 !=0) bt274.2).bind fun bt276=>(some (bt276.1,bt276.2)))))=some (r1,r2):=h;clear h;replace H:=AB.mp H;obtain⟨t273,A20,H⟩:=H;replace H:((bits_Mul64.f t273 1000000).bind fun bt274=>((dec_signed.f k (decide (a0<0)) (bt274.1 !=0) bt274.2).bind fun bt276=>(some (bt276.1,bt276.2))))=some (r1,r2):=H;have A2:=Aside0.mk A20;clear A20;replace H:=AB.mp H;obtain⟨⟨t274,t275⟩,A30,H⟩:=H;replace H:((dec_signed.f k (decide (a0<0)) (t274 !=0) t275).bind fun bt276=>(some (bt276.1,bt276.2)))=some (r1,r2):=H;have A3:=Aside0.mk A30;clear A30;replace H:=AB.mp H;obtain⟨⟨t276,t277⟩,A40,H⟩:=H;replace H:(some (t276,t277))=some (r1,r2):=H;have A4:=Aside0.mk A40;clear A40;simp only [Ay.injEq,AU]at H;obtain⟨rfl,rfl⟩:=H;go_enter Tryz.func154,Tryz.ntmps154
 go_wp2_with (first | ((with_reducible refine qc1 (N:=2) rfl ?_);refine qa1 ?hg (N:=2) ?hd (cs:= #[Aa Ab 0,Aa Ab 0]) (t:=24) ?hr ?_;(case hd=>rfl);(case hg=>rfl);(case hr=>first | (go_simp;done) | (go_simp;rfl));intro gb271 hg w5 hbox hb;have BK271:=Aside0.mk (hbox);have GW271:=Aside0.mk ((by rw [hg];exact(qu zj):w.heap.size≤gb271));have GE271:=Aside0.mk ((by rw [hg];exact(qu zj):w.heap.size≤gb271));replace HB:=Aside0.mk (qw zj hb);clear hb hbox hg) | ((with_reducible refine qc1 (N:=3) rfl ?_);refine qa1 ?hg (N:=3) ?hd (cs:= #[Aa Ab 0,Aa Ab 0]) (t:=24) ?hr ?_;(case hd=>rfl);(case hg=>rfl);(case hr=>first | (go_simp;done) | (go_simp;rfl));intro gb272 hg w6 hbox hb;have BK272:=Aside0.mk (hbox);have GW272:=Aside0.mk ((by rw [hg];exact(qu zav):w.heap.size≤gb272));have GE272:=Aside0.mk ((by rw [hg];exact(qu zav):w.heap.size≤gb272));replace HB:=Aside0.mk (qw zav hb);have NB271_272:=Aside0.mk ((by rw [hg];exact Bg (ql1 (g:=gb271) (o:= .cells #[Aa Ab 0,Aa Ab 0] 24 (0,0)) (za BK271.out)):gb271≠gb272));have NB272_271:=Aside0.mk ((by rw [hg];exact Bc (ql1 (g:=gb271) (o:= .cells #[Aa Ab 0,Aa Ab 0] 24 (0,0)) (za BK271.out)):gb272≠gb271));replace BK271:=Aside0.mk (qn (g:=gb271) (o:= .cells #[Aa Ab 0,Aa Ab 0] 24 (0,0)) (za BK271.out) hb);clear hb hbox hg;have hnb7:=NB272_271.out;have hnc7:=NB271_272.out;have hcz8_0:w6.cell? ⟨gb272,0,none⟩=some (Aa Ab 0):=(qm BK272.out 0).trans rfl;have hcz8_1:w6.cell? ⟨gb272,1,none⟩=some (Aa Ab 0):=(qm BK272.out 1).trans rfl;have hfz8_0:=qe BK272.out 0;have hfz8_1:=qe BK272.out 1) | ((with_reducible refine qi1 (f:=168) rfl ?_);refine qr2 (some 10) rfl rfl Tryz.func168 zm rfl #[.agg #[Aa Ab 0,Aa Ab a0]] rfl zk ?_;(with_reducible refine(dec_size.calls 0 a0 t273 _ A2.out).mono ?_);rintro e w9 ⟨rfl,hb⟩;refine⟨_,rfl,?_⟩;replace BK271:=Aside0.mk (qn (g:=gb271) (o:= .cells #[Aa Ab 0,Aa Ab 0] 24 (0,0)) (by(with_reducible repeat(first | refine qi ?_ _ | refine qj ?_ | refine qb ?_ _));refine qh1 ?_ NB271_272.out _;(with_reducible repeat(first | refine qi ?_ _ | refine qj ?_ | refine qb ?_ _));refine qh1 ?_ NB271_272.out _;(with_reducible repeat(first | refine qi ?_ _ | refine qj ?_ | refine qb ?_ _));exact BK271.out) hb);replace BK272:=Aside0.mk (qn (g:=gb272) (o:= .cells #[Aa Ab 0,Aa Ab a0] 24 (0,0)) (zb BK272.out) hb);replace HB:=Aside0.mk (qw zap hb);(try clear hb);(try clear hb2);(try clear hk);(try clear hi)) | ((with_reducible refine qi1 (f:=167) rfl ?_);refine qr2 (some 11) rfl rfl Tryz.func167 zm rfl #[.int .u64 t273,.int .u64 1000000] rfl zk ?_;(with_reducible refine(bits_Mul64.calls t273 1000000 t274 t275 _ A3.out).mono ?_);rintro e w' ⟨rfl,⟨nd,rfl⟩⟩;refine⟨_,rfl,?_⟩;(try(rw [qw5 w9];generalize hq_:World.drewN w9 _=w9;have n0_:Aside0 (w9.heap[gb271]?=some (.cells #[Aa Ab 0,Aa Ab 0] 24 (0,0))):=⟨by rw [← hq_];exact(za BK271.out)⟩;have n1_:Aside0 (w9.heap[gb272]?=some (.cells #[Aa Ab 0,Aa Ab a0] 24 (0,0))):=⟨by rw [← hq_];exact(za BK272.out)⟩;have n2_:Aside0 (Below w.heap.size w w9):=⟨by rw [← hq_];exact zap⟩;clear BK271 BK272 HB hq_;have BK271:=n0_;have BK272:=n1_;have HB:=n2_;clear n0_ n1_ n2_))) | ((with_reducible refine qi1 (f:=169) rfl ?_);refine qr2 (some 19) rfl rfl Tryz.func169 zm rfl #[Ae (decide (a0<0)),Ae (t274 !=0),.int .u64 t275] rfl zk ?_;(with_reducible refine(dec_signed.calls k (decide (a0<0)) (t274 !=0) t275 t276 t277 _ A4.out).mono ?_);rintro e w10 ⟨rfl,hb⟩;refine⟨_,rfl,?_⟩;replace BK271:=Aside0.mk (qn (g:=gb271) (o:= .cells #[Aa Ab 0,Aa Ab 0] 24 (0,0)) (za BK271.out) hb);replace BK272:=Aside0.mk (qn (g:=gb272) (o:= .cells #[Aa Ab 0,Aa Ab a0] 24 (0,0)) (za BK272.out) hb);replace HB:=Aside0.mk (qw zap hb);(try clear hb);(try clear hb2);(try clear hk);(try clear hi);have hcz11_0:w10.cell? ⟨gb271,0,none⟩=some (Aa Ab 0):=(qm BK271.out 0).trans rfl;have hcz11_1:w10.cell? ⟨gb271,1,none⟩=some (Aa Ab 0):=(qm BK271.out 1).trans rfl;have hfz11_0:=qe BK271.out 0;have hfz11_1:=qe BK271.out 1))
 refine bodyPost_ret (results_cell_row rfl _ _ gb271 24 #[Aa Ab t276,Aa Ab t277] (0,0) _ rfl (by(with_reducible repeat(first | refine qi ?_ _ | refine qj ?_ | refine qb ?_ _));refine qk (cs:= #[Aa Ab t276,Aa Ab 0]) ?_ 1 _ rfl;(with_reducible repeat(first | refine qi ?_ _ | refine qj ?_ | refine qb ?_ _));refine qk (cs:= #[Aa Ab 0,Aa Ab 0]) ?_ 0 _ rfl;(with_reducible repeat(first | refine qi ?_ _ | refine qj ?_ | refine qb ?_ _));exact BK271.out) AC rfl zm) rfl ?_;exact⟨zo,zap⟩
def dec_Int.f (k:Nat) (a0:Int):Option (Int × Int):=if a0=(-9223372036854775808)then((dec_under.f).bind fun bt279=>(some (bt279.1,bt279.2)))else((dec_times.f k a0).bind fun bt281=>(some (bt281.1,bt281.2)))
theorem dec_Int.calls (k:Nat) (a0:Int) (r1:Int) (r2:Int) (w:World) (h:dec_Int.f k a0=some (r1,r2)) :
  Calls Aj 125 #[Aa Ab a0] w fun e w'=>e= .returned (.agg #[Aa Ab r1,Aa Ab r2])∧Below w.heap.size w w':=by
 have hu24:=AC;have HB:=Aside0.mk (Ao w.heap.size w);have H:(if a0=(-9223372036854775808)then((dec_under.f).bind fun bt279=>(some (bt279.1,bt279.2)))else((dec_times.f k a0).bind fun bt281=>(some (bt281.1,bt281.2))))=some (r1,r2):=h;clear h;by_cases c2:a0=(-9223372036854775808)
 ·rw [if_pos c2]at H;have c2b0:(a0 == (-9223372036854775808))=true:=beq_iff_eq.mpr c2;have c2b1:(a0 !=(-9223372036854775808))=false:=bne_eq_false_iff_eq.mpr c2;clear c2;replace H:=AB.mp H;obtain⟨⟨t279,t280⟩,A30,H⟩:=H;replace H:(some (t279,t280))=some (r1,r2):=H;have A3:=Aside0.mk A30;clear A30;simp only [Ay.injEq,AU]at H;obtain⟨rfl,rfl⟩:=H;go_enter Tryz.func125,Tryz.ntmps125;go_wp2_with (first | ((with_reducible refine qc1 (N:=2) rfl ?_);refine qa1 ?hg (N:=2) ?hd (cs:= #[Aa Ab 0,Aa Ab 0]) (t:=24) ?hr ?_;(case hd=>rfl);(case hg=>rfl);(case hr=>first | (go_simp;done) | (go_simp;rfl));intro gb278 hg w4 hbox hb;have BK278:=Aside0.mk (hbox);have GW278:=Aside0.mk ((by rw [hg];exact(qu zj):w.heap.size≤gb278));have GE278:=Aside0.mk ((by rw [hg];exact(qu zj):w.heap.size≤gb278));replace HB:=Aside0.mk (qw zj hb);clear hb hbox hg) | ((with_reducible refine qi1 (f:=153) rfl ?_);refine qr2 (some 5) rfl rfl Tryz.func153 zm rfl #[] rfl zk ?_;(with_reducible refine(dec_under.calls t279 t280 _ A3.out).mono ?_);rintro e w5 ⟨rfl,hb⟩;refine⟨_,rfl,?_⟩;replace BK278:=Aside0.mk (qn (g:=gb278) (o:= .cells #[Aa Ab 0,Aa Ab 0] 24 (0,0)) (za BK278.out) hb);replace HB:=Aside0.mk (qw zaq hb);(try clear hb);(try clear hb2);(try clear hk);(try clear hi);have hcz6_0:w5.cell? ⟨gb278,0,none⟩=some (Aa Ab 0):=(qm BK278.out 0).trans rfl;have hcz6_1:w5.cell? ⟨gb278,1,none⟩=some (Aa Ab 0):=(qm BK278.out 1).trans rfl;have hfz6_0:=qe BK278.out 0;have hfz6_1:=qe BK278.out 1))
  refine bodyPost_ret (results_cell_row rfl _ _ gb278 24 #[Aa Ab t279,Aa Ab t280] (0,0) _ rfl (by(with_reducible repeat(first | refine qi ?_ _ | refine qj ?_ | refine qb ?_ _));refine qk (cs:= #[Aa Ab t279,Aa Ab 0]) ?_ 1 _ rfl;(with_reducible repeat(first | refine qi ?_ _ | refine qj ?_ | refine qb ?_ _));refine qk (cs:= #[Aa Ab 0,Aa Ab 0]) ?_ 0 _ rfl;(with_reducible repeat(first | refine qi ?_ _ | refine qj ?_ | refine qb ?_ _));exact BK278.out) AC rfl zm) rfl ?_;exact⟨zo,zaq⟩
 ·rw [if_neg c2]at H;have c2b0:(a0 == (-9223372036854775808))=false:=beq_eq_false_iff_ne.mpr c2;have c2b1:(a0 !=(-9223372036854775808))=true:=bne_iff_ne.mpr c2;replace H:=AB.mp H;obtain⟨⟨t281,t282⟩,A70,H⟩:=H;replace H:(some (t281,t282))=some (r1,r2):=H;have A7:=Aside0.mk A70;clear A70;simp only [Ay.injEq,AU]at H;obtain⟨rfl,rfl⟩:=H;go_enter Tryz.func125,Tryz.ntmps125;go_wp2_with (first | ((with_reducible refine qc1 (N:=2) rfl ?_);refine qa1 ?hg (N:=2) ?hd (cs:= #[Aa Ab 0,Aa Ab 0]) (t:=24) ?hr ?_;(case hd=>rfl);(case hg=>rfl);(case hr=>first | (go_simp;done) | (go_simp;rfl));intro gb278 hg w8 hbox hb;have BK278:=Aside0.mk (hbox);have GW278:=Aside0.mk ((by rw [hg];exact(qu zj):w.heap.size≤gb278));have GE278:=Aside0.mk ((by rw [hg];exact(qu zj):w.heap.size≤gb278));replace HB:=Aside0.mk (qw zj hb);clear hb hbox hg) | ((with_reducible refine qi1 (f:=154) rfl ?_);refine qr2 (some 7) rfl rfl Tryz.func154 zm rfl #[Aa Ab a0] rfl zk ?_;(with_reducible refine(dec_times.calls k a0 t281 t282 _ A7.out).mono ?_);rintro e w9 ⟨rfl,hb⟩;refine⟨_,rfl,?_⟩;replace BK278:=Aside0.mk (qn (g:=gb278) (o:= .cells #[Aa Ab 0,Aa Ab 0] 24 (0,0)) (za BK278.out) hb);replace HB:=Aside0.mk (qw zaq hb);(try clear hb);(try clear hb2);(try clear hk);(try clear hi);have hcz10_0:w9.cell? ⟨gb278,0,none⟩=some (Aa Ab 0):=(qm BK278.out 0).trans rfl;have hcz10_1:w9.cell? ⟨gb278,1,none⟩=some (Aa Ab 0):=(qm BK278.out 1).trans rfl;have hfz10_0:=qe BK278.out 0;have hfz10_1:=qe BK278.out 1))
  refine bodyPost_ret (results_cell_row rfl _ _ gb278 24 #[Aa Ab t281,Aa Ab t282] (0,0) _ rfl (by(with_reducible repeat(first | refine qi ?_ _ | refine qj ?_ | refine qb ?_ _));refine qk (cs:= #[Aa Ab t281,Aa Ab 0]) ?_ 1 _ rfl;(with_reducible repeat(first | refine qi ?_ _ | refine qj ?_ | refine qb ?_ _));refine qk (cs:= #[Aa Ab 0,Aa Ab 0]) ?_ 0 _ rfl;(with_reducible repeat(first | refine qi ?_ _ | refine qj ?_ | refine qb ?_ _));exact BK278.out) AC rfl zm) rfl ?_;exact⟨zo,zaq⟩
end Go.Proofs.YtocdckniokhbbaaGreatDoor.PF
