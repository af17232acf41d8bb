import Derived.Test.YtocdckniokhbbaaGreatDoorZkZz
import Derived.Test.YtocdckniokhbbaaGreatDoorProg
import Derived.Below
import Derived.Deep.Draws
import Derived.Deep.AppendLies
import Derived.Maps.AppendAt
import Derived.OwnWalk
import Derived.Laws.BytesArg
import Derived.Laws.MakeOwn
import Derived.Laws.OwnMore
import Derived.Deep.OwnRows
import Derived.Tactics
import Derived.Lib.ConvBytes
import Derived.Laws.Slices
import Derived.WalkKit
import Derived.KernelRfl
import Derived.RowKit3
import Derived.Deep.LoopGhost
import Derived.Deep.QuietTactic
import Derived.BigQuiet
import Derived.WideLaws
import Derived.Deep.DeepCutAuto
import Derived.Deep.CutBlock
import Derived.Deep.RegionHeld3
import Derived.Laws.Rows
import Derived.Lib.AppendStr
import Derived.ArgAppend
import Derived.Laws.IdiomCopy
import Derived.OrdersHeld
import Derived.Laws.BitsLemmas
import Derived.RowKit
import Derived.Test.YtocdckniokhbbaaGreatDoorZkPFx1
import Derived.RegionTactic
import Derived.ChangeAlike
import Derived.BigRegion
import Derived.Great.BuildSlice
import Derived.Deep.WholeRow
import Derived.Test.YtocdckniokhbbaaGreatDoorZkWWords
import Derived.Test.YtocdckniokhbbaaGreatDoorZkWLast
import Derived.Laws.StructEq
import Derived.Test.YtocdckniokhbbaaGreatDoorZkWMore
import Derived.Test.YtocdckniokhbbaaGreatDoorZkPFx10
set_option linter.unusedVariables false
set_option linter.unusedSimpArgs false
open Go.Value renaming int→Aa,bool→Ae
open Go.IntKind renaming i64→Ab
open Go.Proofs.Tryz renaming prog→Aj,underlying24→AC
open Go.RowKit.Below renaming refl→Ao
open Option renaming some→Ay,bind_eq_some_iff→AB
open Prod.mk renaming injEq→AU
open Nat renaming ne_of_gt→Bc,ne_of_lt→Bg
open Bool renaming eq_false_iff→AR
set_option maxHeartbeats 8000000
set_option maxRecDepth 100000
namespace Go.Proofs.YtocdckniokhbbaaGreatDoor.PF
open Go.RowKit YtocdckniokhbbaaGreatDoorW.PrintWords YtocdckniokhbbaaGreatDoorW.PrintLast YtocdckniokhbbaaGreatDoorW.PrintMore
attribute [local go_sem] qw3 qt4
def dec_Right.f (a0_0:Int) (a0_1:Int):Option (Bool):=if a0_0=0 then(some (a0_1 !=(-9223372036854775808)))else(if a0_0=1 then(some (a0_1 == 0))else(if a0_0=2 then(some (a0_1 == 0))else(if a0_0=3 then(some (a0_1 == 0))else(some false))))
theorem dec_Right.calls (a0_0:Int) (a0_1:Int) (r:Bool) (w:World) (h:dec_Right.f a0_0 a0_1=some r) :
  Calls Aj 65 #[.agg #[Aa Ab a0_0,Aa Ab a0_1]] w fun e w'=>e= .returned (Ae r)∧Below w.heap.size w w':=by
 have hu24:=AC;have HB:=Aside0.mk (Ao w.heap.size w);have H:(if a0_0=0 then(some (a0_1 !=(-9223372036854775808)))else(if a0_0=1 then(some (a0_1 == 0))else(if a0_0=2 then(some (a0_1 == 0))else(if a0_0=3 then(some (a0_1 == 0))else(some false)))))=some r:=h;clear h;by_cases c2:a0_0=0
 ·rw [if_pos c2]at H;have c2b0:(a0_0 == 0)=true:=beq_iff_eq.mpr c2;have c2b1:(a0_0 !=0)=false:=bne_eq_false_iff_eq.mpr c2;clear c2;obtain rfl:=Ay.inj H;go_enter Tryz.func65,Tryz.ntmps65;go_wp2_with (first | ((with_reducible refine qc1 (N:=1) rfl ?_);refine qa1 ?hg (N:=1) ?hd (cs:= #[Aa Ab a0_0,Aa Ab a0_1]) (t:=24) ?hr ?_;(case hd=>rfl);(case hg=>rfl);(case hr=>first | (go_simp;done) | (go_simp;rfl));intro gb284 hg w3 hbox hb;have BK284:=Aside0.mk (hbox);have GW284:=Aside0.mk ((by rw [hg];exact(qu zj):w.heap.size≤gb284));have GE284:=Aside0.mk ((by rw [hg];exact(qu zj):w.heap.size≤gb284));replace HB:=Aside0.mk (qw zj hb);clear hb hbox hg;have hcz4_0:w3.cell? ⟨gb284,0,none⟩=some (Aa Ab a0_0):=(qm BK284.out 0).trans rfl;have hcz4_1:w3.cell? ⟨gb284,1,none⟩=some (Aa Ab a0_1):=(qm BK284.out 1).trans rfl;have hfz4_0:=qe BK284.out 0;have hfz4_1:=qe BK284.out 1))
  go_ret;exact⟨zo,zam⟩
 ·rw [if_neg c2]at H;have c2b0:(a0_0 == 0)=false:=beq_eq_false_iff_ne.mpr c2;have c2b1:(a0_0 !=0)=true:=bne_iff_ne.mpr c2;by_cases c5:a0_0=1
  ·rw [if_pos c5]at H;have c5b0:(a0_0 == 1)=true:=beq_iff_eq.mpr c5;have c5b1:(a0_0 !=1)=false:=bne_eq_false_iff_eq.mpr c5;clear c5;obtain rfl:=Ay.inj H;go_enter Tryz.func65,Tryz.ntmps65;go_wp2_with (first | ((with_reducible refine qc1 (N:=1) rfl ?_);refine qa1 ?hg (N:=1) ?hd (cs:= #[Aa Ab a0_0,Aa Ab a0_1]) (t:=24) ?hr ?_;(case hd=>rfl);(case hg=>rfl);(case hr=>first | (go_simp;done) | (go_simp;rfl));intro gb284 hg w6 hbox hb;have BK284:=Aside0.mk (hbox);have GW284:=Aside0.mk ((by rw [hg];exact(qu zj):w.heap.size≤gb284));have GE284:=Aside0.mk ((by rw [hg];exact(qu zj):w.heap.size≤gb284));replace HB:=Aside0.mk (qw zj hb);clear hb hbox hg;have hcz7_0:w6.cell? ⟨gb284,0,none⟩=some (Aa Ab a0_0):=(qm BK284.out 0).trans rfl;have hcz7_1:w6.cell? ⟨gb284,1,none⟩=some (Aa Ab a0_1):=(qm BK284.out 1).trans rfl;have hfz7_0:=qe BK284.out 0;have hfz7_1:=qe BK284.out 1))
   go_ret;exact⟨zo,zam⟩
  ·rw [if_neg c5]at H;have c5b0:(a0_0 == 1)=false:=beq_eq_false_iff_ne.mpr c5;have c5b1:(a0_0 !=1)=true:=bne_iff_ne.mpr c5;by_cases c8:a0_0=2
   ·rw [if_pos c8]at H;have c8b0:(a0_0 == 2)=true:=beq_iff_eq.mpr c8;have c8b1:(a0_0 !=2)=false:=bne_eq_false_iff_eq.mpr c8;clear c8;obtain rfl:=Ay.inj H;go_enter Tryz.func65,Tryz.ntmps65;go_wp2_with (first | ((with_reducible refine qc1 (N:=1) rfl ?_);refine qa1 ?hg (N:=1) ?hd (cs:= #[Aa Ab a0_0,Aa Ab a0_1]) (t:=24) ?hr ?_;(case hd=>rfl);(case hg=>rfl);(case hr=>first | (go_simp;done) | (go_simp;rfl));intro gb284 hg w9 hbox hb;have BK284:=Aside0.mk (hbox);have GW284:=Aside0.mk ((by rw [hg];exact(qu zj):w.heap.size≤gb284));have GE284:=Aside0.mk ((by rw [hg];exact(qu zj):w.heap.size≤gb284));replace HB:=Aside0.mk (qw zj hb);clear hb hbox hg;have hcz10_0:w9.cell? ⟨gb284,0,none⟩=some (Aa Ab a0_0):=(qm BK284.out 0).trans rfl;have hcz10_1:w9.cell? ⟨gb284,1,none⟩=some (Aa Ab a0_1):=(qm BK284.out 1).trans rfl;have hfz10_0:=qe BK284.out 0;have hfz10_1:=qe BK284.out 1))
    go_ret;exact⟨zo,zam⟩
   ·rw [if_neg c8]at H;have c8b0:(a0_0 == 2)=false:=beq_eq_false_iff_ne.mpr c8;have c8b1:(a0_0 !=2)=true:=bne_iff_ne.mpr c8;by_cases c11:a0_0=3
    ·rw [if_pos c11]at H;have c11b0:(a0_0 == 3)=true:=beq_iff_eq.mpr c11;have c11b1:(a0_0 !=3)=false:=bne_eq_false_iff_eq.mpr c11;clear c11;obtain rfl:=Ay.inj H;go_enter Tryz.func65,Tryz.ntmps65;go_wp2_with (first | ((with_reducible refine qc1 (N:=1) rfl ?_);refine qa1 ?hg (N:=1) ?hd (cs:= #[Aa Ab a0_0,Aa Ab a0_1]) (t:=24) ?hr ?_;(case hd=>rfl);(case hg=>rfl);(case hr=>first | (go_simp;done) | (go_simp;rfl));intro gb284 hg w12 hbox hb;have BK284:=Aside0.mk (hbox);have GW284:=Aside0.mk ((by rw [hg];exact(qu zj):w.heap.size≤gb284));have GE284:=Aside0.mk ((by rw [hg];exact(qu zj):w.heap.size≤gb284));replace HB:=Aside0.mk (qw zj hb);clear hb hbox hg;have hcz13_0:w12.cell? ⟨gb284,0,none⟩=some (Aa Ab a0_0):=(qm BK284.out 0).trans rfl;have hcz13_1:w12.cell? ⟨gb284,1,none⟩=some (Aa Ab a0_1):=(qm BK284.out 1).trans rfl;have hfz13_0:=qe BK284.out 0;have hfz13_1:=qe BK284.out 1))
     go_ret;exact⟨zo,zam⟩
    ·rw [if_neg c11]at H;have c11b0:(a0_0 == 3)=false:=beq_eq_false_iff_ne.mpr c11;have c11b1:(a0_0 !=3)=true:=bne_iff_ne.mpr c11;obtain rfl:=Ay.inj H;go_enter Tryz.func65,Tryz.ntmps65;go_wp2_with (first | ((with_reducible refine qc1 (N:=1) rfl ?_);refine qa1 ?hg (N:=1) ?hd (cs:= #[Aa Ab a0_0,Aa Ab a0_1]) (t:=24) ?hr ?_;(case hd=>rfl);(case hg=>rfl);(case hr=>first | (go_simp;done) | (go_simp;rfl));intro gb284 hg w14 hbox hb;have BK284:=Aside0.mk (hbox);have GW284:=Aside0.mk ((by rw [hg];exact(qu zj):w.heap.size≤gb284));have GE284:=Aside0.mk ((by rw [hg];exact(qu zj):w.heap.size≤gb284));replace HB:=Aside0.mk (qw zj hb);clear hb hbox hg;have hcz15_0:w14.cell? ⟨gb284,0,none⟩=some (Aa Ab a0_0):=(qm BK284.out 0).trans rfl;have hcz15_1:w14.cell? ⟨gb284,1,none⟩=some (Aa Ab a0_1):=(qm BK284.out 1).trans rfl;have hfz15_0:=qe BK284.out 0;have hfz15_1:=qe BK284.out 1))
     go_ret;exact⟨zo,zam⟩
def dec_nan.f:Option (Int × Int):=some (1,0)
theorem dec_nan.calls (r1:Int) (r2:Int) (w:World) (h:dec_nan.f=some (r1,r2)) :
  Calls Aj 164 #[] w fun e w'=>e= .returned (.agg #[Aa Ab r1,Aa Ab r2])∧Below w.heap.size w w':=by
 have hu24:=AC;have HB:=Aside0.mk (Ao w.heap.size w);have H:(some (1,0))=some (r1,r2):=h;clear h;simp only [Ay.injEq,AU]at H;obtain⟨rfl,rfl⟩:=H;go_enter Tryz.func164,Tryz.ntmps164;go_wp2_with (first | ((with_reducible refine qc1 (N:=0) rfl ?_);refine qa1 ?hg (N:=0) ?hd (cs:= #[Aa Ab 0,Aa Ab 0]) (t:=24) ?hr ?_;(case hd=>rfl);(case hg=>rfl);(case hr=>first | (go_simp;done) | (go_simp;rfl));intro gb285 hg w1 hbox hb;have BK285:=Aside0.mk (hbox);have GW285:=Aside0.mk ((by rw [hg];exact(qu zj):w.heap.size≤gb285));have GE285:=Aside0.mk ((by rw [hg];exact(qu zj):w.heap.size≤gb285));replace HB:=Aside0.mk (qw zj hb);clear hb hbox hg;have hcz2_0:w1.cell? ⟨gb285,0,none⟩=some (Aa Ab 0):=(qm BK285.out 0).trans rfl;have hcz2_1:w1.cell? ⟨gb285,1,none⟩=some (Aa Ab 0):=(qm BK285.out 1).trans rfl;have hfz2_0:=qe BK285.out 0;have hfz2_1:=qe BK285.out 1))
 refine bodyPost_ret (results_cell_row rfl _ _ gb285 24 #[Aa Ab 1,Aa Ab 0] (0,0) _ rfl (by(with_reducible repeat(first | refine qi ?_ _ | refine qj ?_ | refine qb ?_ _));refine qk (cs:= #[Aa Ab 1,Aa Ab 0]) ?_ 1 _ rfl;(with_reducible repeat(first | refine qi ?_ _ | refine qj ?_ | refine qb ?_ _));refine qk (cs:= #[Aa Ab 0,Aa Ab 0]) ?_ 0 _ rfl;(with_reducible repeat(first | refine qi ?_ _ | refine qj ?_ | refine qb ?_ _));exact BK285.out) AC rfl zm) rfl ?_;exact⟨zo,by repeat(first | (with_reducible first | exact HB.out | apply qg | apply qc | apply qh | refine ql ?_ GE285.out) | exact HB.out)⟩
def dec_right.f (a0_0:Int) (a0_1:Int):Option (Int × Int):=(dec_Right.f a0_0 a0_1).bind fun t288=>(if t288=true then(some (a0_0,a0_1))else((dec_nan.f).bind fun bt289=>(some (bt289.1,bt289.2))))
theorem dec_right.calls (a0_0:Int) (a0_1:Int) (r1:Int) (r2:Int) (w:World) (h:dec_right.f a0_0 a0_1=some (r1,r2)) :
  Calls Aj 159 #[.agg #[Aa Ab a0_0,Aa Ab a0_1]] w fun e w'=>e= .returned (.agg #[Aa Ab r1,Aa Ab r2])∧Below w.heap.size w w':=by
 have hu24:=AC;have HB:=Aside0.mk (Ao w.heap.size w);have H:((dec_Right.f a0_0 a0_1).bind fun t288=>(if t288=true then(some (a0_0,a0_1))else((dec_nan.f).bind fun bt289=>(some (bt289.1,bt289.2)))))=some (r1,r2):=h;clear h;replace H:=AB.mp H;obtain⟨t288,A20,H⟩:=H;replace H:(if t288=true then(some (a0_0,a0_1))else((dec_nan.f).bind fun bt289=>(some (bt289.1,bt289.2))))=some (r1,r2):=H;have A2:=Aside0.mk A20;clear A20;by_cases c3:t288=true
 ·subst c3;have H1:(some (a0_0,a0_1))=some (r1,r2):=by rw [if_pos rfl]at H;exact H
  clear H;have H:=H1;clear H1;simp only [Ay.injEq,AU]at H;obtain⟨rfl,rfl⟩:=H;go_enter Tryz.func159,Tryz.ntmps159
  go_wp2_with (first | ((with_reducible refine qc1 (N:=1) rfl ?_);refine qa1 ?hg (N:=1) ?hd (cs:= #[Aa Ab a0_0,Aa Ab a0_1]) (t:=24) ?hr ?_;(case hd=>rfl);(case hg=>rfl);(case hr=>first | (go_simp;done) | (go_simp;rfl));intro gb286 hg w4 hbox hb;have BK286:=Aside0.mk (hbox);have GW286:=Aside0.mk ((by rw [hg];exact(qu zj):w.heap.size≤gb286));have GE286:=Aside0.mk ((by rw [hg];exact(qu zj):w.heap.size≤gb286));replace HB:=Aside0.mk (qw zj hb);clear hb hbox hg) | ((with_reducible refine qc1 (N:=2) rfl ?_);refine qa1 ?hg (N:=2) ?hd (cs:= #[Aa Ab 0,Aa Ab 0]) (t:=24) ?hr ?_;(case hd=>rfl);(case hg=>rfl);(case hr=>first | (go_simp;done) | (go_simp;rfl));intro gb287 hg w5 hbox hb;have BK287:=Aside0.mk (hbox);have GW287:=Aside0.mk ((by rw [hg];exact(qu zag):w.heap.size≤gb287));have GE287:=Aside0.mk ((by rw [hg];exact(qu zag):w.heap.size≤gb287));replace HB:=Aside0.mk (qw zag hb);have NB286_287:=Aside0.mk ((by rw [hg];exact Bg (ql1 (g:=gb286) (o:= .cells #[Aa Ab a0_0,Aa Ab a0_1] 24 (0,0)) (za BK286.out)):gb286≠gb287));have NB287_286:=Aside0.mk ((by rw [hg];exact Bc (ql1 (g:=gb286) (o:= .cells #[Aa Ab a0_0,Aa Ab a0_1] 24 (0,0)) (za BK286.out)):gb287≠gb286));replace BK286:=Aside0.mk (qn (g:=gb286) (o:= .cells #[Aa Ab a0_0,Aa Ab a0_1] 24 (0,0)) (za BK286.out) hb);clear hb hbox hg;have hnb6:=NB286_287.out;have hnc6:=NB287_286.out;have hcz7_0:w5.cell? ⟨gb286,0,none⟩=some (Aa Ab a0_0):=(qm BK286.out 0).trans rfl;have hcz7_1:w5.cell? ⟨gb286,1,none⟩=some (Aa Ab a0_1):=(qm BK286.out 1).trans rfl;have hfz7_0:=qe BK286.out 0;have hfz7_1:=qe BK286.out 1) | ((with_reducible refine qi1 (f:=65) rfl ?_);refine qr2 (some 4) rfl rfl Tryz.func65 zm rfl #[.agg #[Aa Ab a0_0,Aa Ab a0_1]] rfl zk ?_;(with_reducible refine(dec_Right.calls a0_0 a0_1 true _ A2.out).mono ?_);rintro e w8 ⟨rfl,hb⟩;refine⟨_,rfl,?_⟩;replace BK286:=Aside0.mk (qn (g:=gb286) (o:= .cells #[Aa Ab a0_0,Aa Ab a0_1] 24 (0,0)) (za BK286.out) hb);replace BK287:=Aside0.mk (qn (g:=gb287) (o:= .cells #[Aa Ab 0,Aa Ab 0] 24 (0,0)) (za BK287.out) hb);replace HB:=Aside0.mk (qw zal hb);(try clear hb);(try clear hb2);(try clear hk);(try clear hi);have hcz9_0:w8.cell? ⟨gb286,0,none⟩=some (Aa Ab a0_0):=(qm BK286.out 0).trans rfl;have hcz9_1:w8.cell? ⟨gb286,1,none⟩=some (Aa Ab a0_1):=(qm BK286.out 1).trans rfl;have hfz9_0:=qe BK286.out 0;have hfz9_1:=qe BK286.out 1;have hcz10_0:w8.cell? ⟨gb287,0,none⟩=some (Aa Ab 0):=(qm BK287.out 0).trans rfl;have hcz10_1:w8.cell? ⟨gb287,1,none⟩=some (Aa Ab 0):=(qm BK287.out 1).trans rfl;have hfz10_0:=qe BK287.out 0;have hfz10_1:=qe BK287.out 1))
  refine bodyPost_ret (results_cell_row rfl _ _ gb287 24 #[Aa Ab a0_0,Aa Ab a0_1] (0,0) _ rfl (by(with_reducible repeat(first | refine qi ?_ _ | refine qj ?_ | refine qb ?_ _));refine qk (cs:= #[Aa Ab a0_0,Aa Ab 0]) ?_ 1 _ rfl;(with_reducible repeat(first | refine qi ?_ _ | refine qj ?_ | refine qb ?_ _));refine qk (cs:= #[Aa Ab 0,Aa Ab 0]) ?_ 0 _ rfl;(with_reducible repeat(first | refine qi ?_ _ | refine qj ?_ | refine qb ?_ _));exact BK287.out) AC rfl zm) rfl ?_;exact⟨zo,zal⟩
 ·replace c3:=AR.mpr c3;subst c3;have H1:((dec_nan.f).bind fun bt289=>(some (bt289.1,bt289.2)))=some (r1,r2):=by rw [if_neg (show ¬ (false=true) by decide)]at H;exact H
  clear H;have H:=H1;clear H1;replace H:=AB.mp H;obtain⟨⟨t289,t290⟩,A110,H⟩:=H;replace H:(some (t289,t290))=some (r1,r2):=H;have A11:=Aside0.mk A110;clear A110;simp only [Ay.injEq,AU]at H;obtain⟨rfl,rfl⟩:=H;go_enter Tryz.func159,Tryz.ntmps159
  go_wp2_with (first | ((with_reducible refine qc1 (N:=1) rfl ?_);refine qa1 ?hg (N:=1) ?hd (cs:= #[Aa Ab a0_0,Aa Ab a0_1]) (t:=24) ?hr ?_;(case hd=>rfl);(case hg=>rfl);(case hr=>first | (go_simp;done) | (go_simp;rfl));intro gb286 hg w12 hbox hb;have BK286:=Aside0.mk (hbox);have GW286:=Aside0.mk ((by rw [hg];exact(qu zj):w.heap.size≤gb286));have GE286:=Aside0.mk ((by rw [hg];exact(qu zj):w.heap.size≤gb286));replace HB:=Aside0.mk (qw zj hb);clear hb hbox hg) | ((with_reducible refine qc1 (N:=2) rfl ?_);refine qa1 ?hg (N:=2) ?hd (cs:= #[Aa Ab 0,Aa Ab 0]) (t:=24) ?hr ?_;(case hd=>rfl);(case hg=>rfl);(case hr=>first | (go_simp;done) | (go_simp;rfl));intro gb287 hg w13 hbox hb;have BK287:=Aside0.mk (hbox);have GW287:=Aside0.mk ((by rw [hg];exact(qu zag):w.heap.size≤gb287));have GE287:=Aside0.mk ((by rw [hg];exact(qu zag):w.heap.size≤gb287));replace HB:=Aside0.mk (qw zag hb);have NB286_287:=Aside0.mk ((by rw [hg];exact Bg (ql1 (g:=gb286) (o:= .cells #[Aa Ab a0_0,Aa Ab a0_1] 24 (0,0)) (za BK286.out)):gb286≠gb287));have NB287_286:=Aside0.mk ((by rw [hg];exact Bc (ql1 (g:=gb286) (o:= .cells #[Aa Ab a0_0,Aa Ab a0_1] 24 (0,0)) (za BK286.out)):gb287≠gb286));replace BK286:=Aside0.mk (qn (g:=gb286) (o:= .cells #[Aa Ab a0_0,Aa Ab a0_1] 24 (0,0)) (za BK286.out) hb);clear hb hbox hg;have hnb14:=NB286_287.out;have hnc14:=NB287_286.out;have hcz15_0:w13.cell? ⟨gb286,0,none⟩=some (Aa Ab a0_0):=(qm BK286.out 0).trans rfl;have hcz15_1:w13.cell? ⟨gb286,1,none⟩=some (Aa Ab a0_1):=(qm BK286.out 1).trans rfl;have hfz15_0:=qe BK286.out 0;have hfz15_1:=qe BK286.out 1) | ((with_reducible refine qi1 (f:=65) rfl ?_);refine qr2 (some 4) rfl rfl Tryz.func65 zm rfl #[.agg #[Aa Ab a0_0,Aa Ab a0_1]] rfl zk ?_;(with_reducible refine(dec_Right.calls a0_0 a0_1 false _ A2.out).mono ?_);rintro e w16 ⟨rfl,hb⟩;refine⟨_,rfl,?_⟩;replace BK286:=Aside0.mk (qn (g:=gb286) (o:= .cells #[Aa Ab a0_0,Aa Ab a0_1] 24 (0,0)) (za BK286.out) hb);replace BK287:=Aside0.mk (qn (g:=gb287) (o:= .cells #[Aa Ab 0,Aa Ab 0] 24 (0,0)) (za BK287.out) hb);replace HB:=Aside0.mk (qw zal hb);(try clear hb);(try clear hb2);(try clear hk);(try clear hi)) | ((with_reducible refine qi1 (f:=164) rfl ?_);refine qr2 (some 6) rfl rfl Tryz.func164 zm rfl #[] rfl zk ?_;(with_reducible refine(dec_nan.calls t289 t290 _ A11.out).mono ?_);rintro e w17 ⟨rfl,hb⟩;refine⟨_,rfl,?_⟩;replace BK286:=Aside0.mk (qn (g:=gb286) (o:= .cells #[Aa Ab a0_0,Aa Ab a0_1] 24 (0,0)) (za BK286.out) hb);replace BK287:=Aside0.mk (qn (g:=gb287) (o:= .cells #[Aa Ab 0,Aa Ab 0] 24 (0,0)) (za BK287.out) hb);replace HB:=Aside0.mk (qw zal hb);(try clear hb);(try clear hb2);(try clear hk);(try clear hi);have hcz18_0:w17.cell? ⟨gb287,0,none⟩=some (Aa Ab 0):=(qm BK287.out 0).trans rfl;have hcz18_1:w17.cell? ⟨gb287,1,none⟩=some (Aa Ab 0):=(qm BK287.out 1).trans rfl;have hfz18_0:=qe BK287.out 0;have hfz18_1:=qe BK287.out 1))
  refine bodyPost_ret (results_cell_row rfl _ _ gb287 24 #[Aa Ab t289,Aa Ab t290] (0,0) _ rfl (by(with_reducible repeat(first | refine qi ?_ _ | refine qj ?_ | refine qb ?_ _));refine qk (cs:= #[Aa Ab t289,Aa Ab 0]) ?_ 1 _ rfl;(with_reducible repeat(first | refine qi ?_ _ | refine qj ?_ | refine qb ?_ _));refine qk (cs:= #[Aa Ab 0,Aa Ab 0]) ?_ 0 _ rfl;(with_reducible repeat(first | refine qi ?_ _ | refine qj ?_ | refine qb ?_ _));exact BK287.out) AC rfl zm) rfl ?_;exact⟨zo,zal⟩
def qx3 (a b:Int):Int:=
 if a=0 then(if b=0 then 0 else b)else if a=1 then 1 else if a=2 then(if b=0 then 2 else if b=2 then 2 else 1)else(if b=0 then 3 else if b=3 then 3 else 1)
def dec_tagged.f (a0 a1 b0 b1:Int):Option (Int × Int × Bool):=
 if a0=0∧b0=0 then some (0,0,false)else if 0≤a0∧a0≤3∧0≤b0∧b0≤3 then some (qx3 a0 b0,0,true)else none
def dec_tagged.tab:Array Value:= #[Aa Ab 0,Aa Ab 0,Aa Ab 1,Aa Ab 0,Aa Ab 2,Aa Ab 0,Aa Ab 3,Aa Ab 0,Aa Ab 1,Aa Ab 0,Aa Ab 1,Aa Ab 0,Aa Ab 1,Aa Ab 0,Aa Ab 1,Aa Ab 0,Aa Ab 2,Aa Ab 0,Aa Ab 1,Aa Ab 0,Aa Ab 2,Aa Ab 0,Aa Ab 1,Aa Ab 0,Aa Ab 3,Aa Ab 0,Aa Ab 1,Aa Ab 0,Aa Ab 1,Aa Ab 0,Aa Ab 3,Aa Ab 0]
theorem dec_tagged.tab_one:dec_tagged.tab.all (·.oneCell')=true:=by simp [dec_tagged.tab,Value.oneCell']
theorem dec_tagged.tab_at (a b:Int) (h1:0≤a) (h2:a≤3) (h3:0≤b) (h4:b≤3):dec_tagged.tab[a.toNat*8+b.toNat*2]?=some (Aa Ab (qx3 a b))∧dec_tagged.tab[a.toNat*8+b.toNat*2+1]?=some (Aa Ab 0):=by
 have ha:a=0∨a=1∨a=2∨a=3:=by omega
 have hb:b=0∨b=1∨b=2∨b=3:=by omega
 rcases ha with rfl | rfl | rfl | rfl<;>rcases hb with rfl | rfl | rfl | rfl<;>exact⟨rfl,rfl⟩
theorem dec_tagged.calls_00 (a1 b1:Int) (w:World):Calls Aj 160 #[.agg #[Aa Ab 0,Aa Ab a1],.agg #[Aa Ab 0,Aa Ab b1]] w fun e w'=>e= .returned (.tuple #[.agg #[Aa Ab 0,Aa Ab 0],Ae false])∧Below w.heap.size w w':=by
 obtain⟨_,_,k3⟩:=Mine.blk3 w (.cells #[Aa Ab 0,Aa Ab a1] 24) (.cells #[Aa Ab 0,Aa Ab b1] 24) (.cells #[Aa Ab 0,Aa Ab 0] 24);have HK:=Aside0.mk k3;clear k3;go_enter Tryz.func160,Tryz.ntmps160;go_wp2;refine bodyPost_ret (qd1 rfl _ _ (w.heap.size+1+1) 24 _ (0,0) _ rfl HK.out AC rfl zm) rfl ⟨rfl,?_⟩;exact qg (qg (qg (Ao w.heap.size w) _) _) _
theorem dec_tagged.calls_x (a0 a1 b0 b1:Int) (w:World) (hx:(a0 == 0)=false) (ha0:0≤a0) (ha:a0≤3) (hb0:0≤b0) (hb:b0≤3):Calls Aj 160 #[.agg #[Aa Ab a0,Aa Ab a1],.agg #[Aa Ab b0,Aa Ab b1]] w fun e w'=>e= .returned (.tuple #[.agg #[Aa Ab (qx3 a0 b0),Aa Ab 0],Ae true])∧Below w.heap.size w w':=by
 have HB:=Aside0.mk (Ao (w.heap.size+3) (((w.alloc (.cells #[Aa Ab a0,Aa Ab a1] 24)).alloc (.cells #[Aa Ab b0,Aa Ab b1] 24)).alloc (.cells #[Aa Ab 0,Aa Ab 0] 24)));have HS:=Aside0.mk (show w.heap.size+3≤(((w.alloc (.cells #[Aa Ab a0,Aa Ab a1] 24)).alloc (.cells #[Aa Ab b0,Aa Ab b1] 24)).alloc (.cells #[Aa Ab 0,Aa Ab 0] 24)).heap.size by simp);have HT:=Aside0.mk (dec_tagged.tab_at a0 b0 (by omega) (by omega) hb0 hb);have HL:=Aside0.mk (((qg (qg (qg (Ao w.heap.size w) (.cells #[Aa Ab a0,Aa Ab a1] 24)) (.cells #[Aa Ab b0,Aa Ab b1] 24)) (.cells #[Aa Ab 0,Aa Ab 0] 24))));go_enter Tryz.func160,Tryz.ntmps160;go_wp2_with (first | (go_at_call 164;refine(dec_nan.calls 1 0 _ rfl).mono ?_;rintro e wn ⟨rfl,hn⟩;have HX:=Aside0.mk (HB.out.trans (hn.mono HS.out));have HY:=Aside0.mk (Nat.le_trans HS.out hn.size);clear HB hn HS;have HB:=HX;have HS:=HY;clear HX HY) | (go_at_call 162;refine(dec_over.calls 2 0 _ rfl).mono ?_;rintro e wn ⟨rfl,hn⟩;have HX:=Aside0.mk (HB.out.trans (hn.mono HS.out));have HY:=Aside0.mk (Nat.le_trans HS.out hn.size);clear HB hn HS;have HB:=HX;have HS:=HY;clear HX HY) | (go_at_call 153;refine(dec_under.calls 3 0 _ rfl).mono ?_;rintro e wn ⟨rfl,hn⟩;have HX:=Aside0.mk (HB.out.trans (hn.mono HS.out));have HY:=Aside0.mk (Nat.le_trans HS.out hn.size);clear HB hn HS;have HB:=HX;have HS:=HY;clear HX HY) | ((with_reducible refine Mine.gate_op (.store 221 (.tmp 6) (.tmp 36)) rfl ?_);refine Mine.store_new rfl 221 (.tmp 6) (.tmp 36) rfl rfl dec_tagged.tab rfl rfl 221 _ zm rfl dec_tagged.tab_one ?_))
 rename_i wn _ _ _ _ _ _
 obtain⟨k1,k2,k3⟩:=Mine.blk3 w (.cells #[Aa Ab a0,Aa Ab a1] 24) (.cells #[Aa Ab b0,Aa Ab b1] 24) (.cells #[Aa Ab 0,Aa Ab 0] 24);have K1:=qb ((HB.out.block w.heap.size (by omega)).trans k1) (.cells dec_tagged.tab 221);have K2:=qb ((HB.out.block (w.heap.size+1) (by omega)).trans k2) (.cells dec_tagged.tab 221);have K3:=qb ((HB.out.block (w.heap.size+1+1) (by omega)).trans k3) (.cells dec_tagged.tab 221);have K4:=qr wn (.cells dec_tagged.tab 221);have c1:=qm K1 0;have c2:=qm K2 0;have c3:=qm K3 0;have c4:=qm K3 1;have f3:=qe K3 0;have f4:=qe K3 1;have c5:=(qm K4 (a0.toNat*8+b0.toNat*2)).trans HT.out.1;have c6:=(qm K4 (a0.toNat*8+b0.toNat*2+1)).trans HT.out.2;have hlt:a0<4:=by omega
 have hlt2:b0<4:=by omega
 have HZ:=Aside0.mk ((HL.out.trans (HB.out.mono (by omega))).alloc (Nat.le_trans (by omega) HS.out) (.cells dec_tagged.tab 221));have HK:=Aside0.mk K3;simp at c1 c2 c3 c4 c5 c6;clear HB HS K1 K2 K3 K4 k1 k2 k3 HT HL;go_region
 all_goals
  go_wp2;refine bodyPost_ret (qd1 rfl _ _ (w.heap.size+1+1) 24 _ (0,0) _ rfl (qk6 (qk6 HK.out 0 _) 1 _) AC rfl zm) rfl ⟨rfl,?_⟩;exact qh11 ((HZ.out.setCell (p:=⟨w.heap.size+1+1,0,none⟩) za6 _).setCell (p:=⟨w.heap.size+1+1,1,none⟩) za6 _)
theorem dec_tagged.calls_0 (a1 b0 b1:Int) (w:World) (hx:(b0 == 0)=false) (hb0:0≤b0) (hb:b0≤3):Calls Aj 160 #[.agg #[Aa Ab 0,Aa Ab a1],.agg #[Aa Ab b0,Aa Ab b1]] w fun e w'=>e= .returned (.tuple #[.agg #[Aa Ab (qx3 0 b0),Aa Ab 0],Ae true])∧Below w.heap.size w w':=by
 have HB:=Aside0.mk (Ao (w.heap.size+3) (((w.alloc (.cells #[Aa Ab 0,Aa Ab a1] 24)).alloc (.cells #[Aa Ab b0,Aa Ab b1] 24)).alloc (.cells #[Aa Ab 0,Aa Ab 0] 24)));have HS:=Aside0.mk (show w.heap.size+3≤(((w.alloc (.cells #[Aa Ab 0,Aa Ab a1] 24)).alloc (.cells #[Aa Ab b0,Aa Ab b1] 24)).alloc (.cells #[Aa Ab 0,Aa Ab 0] 24)).heap.size by simp);have HT:=Aside0.mk (dec_tagged.tab_at 0 b0 (by omega) (by omega) hb0 hb);have HL:=Aside0.mk (((qg (qg (qg (Ao w.heap.size w) (.cells #[Aa Ab 0,Aa Ab a1] 24)) (.cells #[Aa Ab b0,Aa Ab b1] 24)) (.cells #[Aa Ab 0,Aa Ab 0] 24))));go_enter Tryz.func160,Tryz.ntmps160;go_wp2_with (first | (go_at_call 164;refine(dec_nan.calls 1 0 _ rfl).mono ?_;rintro e wn ⟨rfl,hn⟩;have HX:=Aside0.mk (HB.out.trans (hn.mono HS.out));have HY:=Aside0.mk (Nat.le_trans HS.out hn.size);clear HB hn HS;have HB:=HX;have HS:=HY;clear HX HY) | (go_at_call 162;refine(dec_over.calls 2 0 _ rfl).mono ?_;rintro e wn ⟨rfl,hn⟩;have HX:=Aside0.mk (HB.out.trans (hn.mono HS.out));have HY:=Aside0.mk (Nat.le_trans HS.out hn.size);clear HB hn HS;have HB:=HX;have HS:=HY;clear HX HY) | (go_at_call 153;refine(dec_under.calls 3 0 _ rfl).mono ?_;rintro e wn ⟨rfl,hn⟩;have HX:=Aside0.mk (HB.out.trans (hn.mono HS.out));have HY:=Aside0.mk (Nat.le_trans HS.out hn.size);clear HB hn HS;have HB:=HX;have HS:=HY;clear HX HY) | ((with_reducible refine Mine.gate_op (.store 221 (.tmp 6) (.tmp 36)) rfl ?_);refine Mine.store_new rfl 221 (.tmp 6) (.tmp 36) rfl rfl dec_tagged.tab rfl rfl 221 _ zm rfl dec_tagged.tab_one ?_))
 rename_i wn _ _ _ _ _ _
 obtain⟨k1,k2,k3⟩:=Mine.blk3 w (.cells #[Aa Ab 0,Aa Ab a1] 24) (.cells #[Aa Ab b0,Aa Ab b1] 24) (.cells #[Aa Ab 0,Aa Ab 0] 24);have K1:=qb ((HB.out.block w.heap.size (by omega)).trans k1) (.cells dec_tagged.tab 221);have K2:=qb ((HB.out.block (w.heap.size+1) (by omega)).trans k2) (.cells dec_tagged.tab 221);have K3:=qb ((HB.out.block (w.heap.size+1+1) (by omega)).trans k3) (.cells dec_tagged.tab 221);have K4:=qr wn (.cells dec_tagged.tab 221);have c1:=qm K1 0;have c2:=qm K2 0;have c3:=qm K3 0;have c4:=qm K3 1;have f3:=qe K3 0;have f4:=qe K3 1;have c5:=(qm K4 ((0:Int).toNat*8+b0.toNat*2)).trans HT.out.1;have c6:=(qm K4 ((0:Int).toNat*8+b0.toNat*2+1)).trans HT.out.2;have hlt:0<4:=by omega
 have hlt2:b0<4:=by omega
 have HZ:=Aside0.mk ((HL.out.trans (HB.out.mono (by omega))).alloc (Nat.le_trans (by omega) HS.out) (.cells dec_tagged.tab 221));have HK:=Aside0.mk K3;simp at c1 c2 c3 c4 c5 c6;clear HB HS K1 K2 K3 K4 k1 k2 k3 HT HL;go_region
 all_goals
  go_wp2;refine bodyPost_ret (qd1 rfl _ _ (w.heap.size+1+1) 24 _ (0,0) _ rfl (qk6 (qk6 HK.out 0 _) 1 _) AC rfl zm) rfl ⟨rfl,?_⟩;exact qh11 ((HZ.out.setCell (p:=⟨w.heap.size+1+1,0,none⟩) za6 _).setCell (p:=⟨w.heap.size+1+1,1,none⟩) za6 _)
theorem dec_tagged.calls (a0 a1 b0 b1:Int) (r1 r2:Int) (r3:Bool) (w:World) (h:dec_tagged.f a0 a1 b0 b1=some (r1,r2,r3)) :
  Calls Aj 160 #[.agg #[Aa Ab a0,Aa Ab a1],.agg #[Aa Ab b0,Aa Ab b1]] w fun e w'=>e= .returned (.tuple #[.agg #[Aa Ab r1,Aa Ab r2],Ae r3])∧Below w.heap.size w w':=by
 unfold dec_tagged.f at h;by_cases c:a0=0∧b0=0
 ·rw [if_pos c]at h;simp only [Ay.injEq,AU]at h;obtain⟨rfl,rfl,rfl⟩:=h;obtain⟨rfl,rfl⟩:=c;exact dec_tagged.calls_00 a1 b1 w
 ·rw [if_neg c]at h;by_cases d:0≤a0∧a0≤3∧0≤b0∧b0≤3
  ·rw [if_pos d]at h;simp only [Ay.injEq,AU]at h;obtain⟨rfl,rfl,rfl⟩:=h;by_cases e:a0=0
   ·subst e;exact dec_tagged.calls_0 a1 b0 b1 w za6 d.2.2.1 d.2.2.2
   ·exact dec_tagged.calls_x a0 a1 b0 b1 w (by simpa using e) d.1 d.2.1 d.2.2.1 d.2.2.2
  ·rw [if_neg d]at h
   cases h
def bits_Add64.f (x y c:Int):Option (Int × Int):=if 0≤x∧0≤y∧0≤c∧c≤1 then some ((x+y+c) % 18446744073709551616,(x+y+c) / 18446744073709551616)else none
theorem bits_Add64.found:Extern.find Tryz.f161=some add64Entry:=rfl
theorem bits_Add64.calls (x y c:Int) (r1 r2:Int) (w:World) (h:bits_Add64.f x y c=some (r1,r2)) :
  Go.Proofs.YtocdckniokhbbaaGreatDoor.Mine.CallsX Aj 161 #[.int .u64 x,.int .u64 y,.int .u64 c] w fun e w'=>e= .returned (.tuple #[.int .u64 r1,.int .u64 r2])∧Drawn0 w w':=by
 unfold bits_Add64.f at h;by_cases b:0≤x∧0≤y∧0≤c∧c≤1
 ·rw [if_pos b]at h;simp only [Ay.injEq,AU]at h;obtain⟨rfl,rfl⟩:=h;refine⟨_,?_,rfl,Drawn0.refl _⟩;rw [run_callFunc_extern Tryz.func161 zm rfl zm bits_Add64.found,run_add64 x y c b.1 b.2.1 b.2.2.1 b.2.2.2];rfl
 ·rw [if_neg b]at h
  cases h
end Go.Proofs.YtocdckniokhbbaaGreatDoor.PF
