import Derived.Test.YtocdckniokhbbaaGreatDoorZkZz
import Derived.Test.YtocdckniokhbbaaGreatDoorProg
import Derived.Below
import Derived.Deep.Draws
import Derived.Deep.AppendLies
import Derived.Maps.AppendAt
import Derived.OwnWalk
import Derived.Laws.BytesArg
import Derived.Laws.MakeOwn
import Derived.Laws.OwnMore
import Derived.Deep.OwnRows
import Derived.Tactics
import Derived.Lib.ConvBytes
import Derived.Laws.Slices
import Derived.WalkKit
import Derived.KernelRfl
import Derived.RowKit3
import Derived.Deep.LoopGhost
import Derived.Deep.QuietTactic
import Derived.BigQuiet
import Derived.WideLaws
import Derived.Deep.DeepCutAuto
import Derived.Deep.CutBlock
import Derived.Deep.RegionHeld3
import Derived.Laws.Rows
import Derived.Lib.AppendStr
import Derived.ArgAppend
import Derived.Laws.IdiomCopy
import Derived.OrdersHeld
import Derived.Laws.BitsLemmas
import Derived.RowKit
import Derived.Test.YtocdckniokhbbaaGreatDoorZkPFx1
import Derived.RegionTactic
import Derived.ChangeAlike
import Derived.BigRegion
import Derived.Great.BuildSlice
import Derived.Deep.WholeRow
import Derived.Test.YtocdckniokhbbaaGreatDoorZkWWords
import Derived.Test.YtocdckniokhbbaaGreatDoorZkWLast
import Derived.Laws.StructEq
import Derived.Test.YtocdckniokhbbaaGreatDoorZkWMore
import Derived.Test.YtocdckniokhbbaaGreatDoorZkPFx10
import Derived.Test.YtocdckniokhbbaaGreatDoorZkPFx11
import Derived.Test.YtocdckniokhbbaaGreatDoorZkPFx12
import Derived.Test.YtocdckniokhbbaaGreatDoorZkPFx13
set_option linter.unusedVariables false
set_option linter.unusedSimpArgs false
open Go.Value renaming int→Aa,bool→Ae
open Go.IntKind renaming i64→Ab
open Go.Proofs.Tryz renaming prog→Aj,underlying24→AC
open Go.RowKit.Below renaming refl→Ao
open Option renaming bind_eq_some_iff→AB,some→Ay
open Prod.mk renaming injEq→AU
open Nat renaming ne_of_gt→Bc,ne_of_lt→Bg
open Or renaming inl→Bv
open List renaming setIfInBounds_toArray→Ap,set_cons_zero→Aw,set_cons_succ→Ax
open Go.Act renaming put→AP
open Bool renaming eq_false_iff→AR
set_option maxHeartbeats 8000000
set_option maxRecDepth 100000
namespace Go.Proofs.YtocdckniokhbbaaGreatDoor.PF
open Go.RowKit YtocdckniokhbbaaGreatDoorW.PrintWords YtocdckniokhbbaaGreatDoorW.PrintLast YtocdckniokhbbaaGreatDoorW.PrintMore
attribute [local go_sem] qw3 qt4
def dec_Mul.j0:Nat→Bool→Int→Int→Int→Int→Option (Int × Int)
 | 0,_,_,_,_,_=>none
 | k+1,x25,x315000,x315001,x316000,x316001=>if x25=true then((dec_sign.f k x315000 x315001).bind fun t324=>((dec_sign.f k x316000 x316001).bind fun t325=>((dec_great.f (wrap64 (t324*t325))).bind fun bt326=>(some (bt326.1,bt326.2)))))else((dec_size.f x315000 x315001).bind fun t328=>((dec_size.f x316000 x316001).bind fun t329=>((bits_Mul64.f t328 t329).bind fun bt330=>((dec_sign.f k x315000 x315001).bind fun t332=>((dec_sign.f k x316000 x316001).bind fun t333=>(if bt330.1≥1000000 then((dec_signed.f k (decide ((wrap64 (t332*t333))<0)) true 0).bind fun bt334=>(some (bt334.1,bt334.2)))else((bits_Div64.f k bt330.1 bt330.2 1000000).bind fun bt336=>((dec_signed.f k (decide ((wrap64 (t332*t333))<0)) false bt336.1).bind fun bt338=>(some (bt338.1,bt338.2))))))))))
def dec_Mul.f (k:Nat) (a0_0:Int) (a0_1:Int) (a1_0:Int) (a1_1:Int):Option (Int × Int):=(dec_right.f a0_0 a0_1).bind fun bt317=>((dec_right.f a1_0 a1_1).bind fun bt319=>((dec_none.f bt317.1 bt317.2 bt319.1 bt319.2).bind fun t321=>(if t321=true then((dec_nan.f).bind fun bt322=>(some (bt322.1,bt322.2)))else(if bt317.1=0 then(dec_Mul.j0 k (bt319.1 !=0) bt317.1 bt317.2 bt319.1 bt319.2)else(dec_Mul.j0 k true bt317.1 bt317.2 bt319.1 bt319.2)))))
def dec_Mul.T6:Bool × List (List Nat × List Nat):=(true,[([],[]),([0],[0]),([],[]),([2,1],[2]),([1,3,3],[1,3]),([4],[4]),([5],[5]),([5],[5]),([6,4,0,1,2,3,4,5,6],[6]),([7,8,0,1,2,3,4,5,6,7,8],[7])])
def dec_Mul.B6:List Nat:=[0,1,0,7,15,31,63,63,127,511]
theorem dec_Mul.tab6:qe10 .any (opsOf Tryz.f128 6)=dec_Mul.T6:=by kernel_rfl
theorem dec_Mul.bits6:qw8 dec_Mul.T6.2 dec_Mul.B6=true:=by kernel_rfl
theorem dec_Mul.calls (k:Nat) (a0_0:Int) (a0_1:Int) (a1_0:Int) (a1_1:Int) (r1:Int) (r2:Int) (w:World) (h:dec_Mul.f k a0_0 a0_1 a1_0 a1_1=some (r1,r2)) :
  Calls Aj 128 #[.agg #[Aa Ab a0_0,Aa Ab a0_1],.agg #[Aa Ab a1_0,Aa Ab a1_1]] w fun e w'=>e= .returned (.agg #[Aa Ab r1,Aa Ab r2])∧Below w.heap.size w w':=by
 have hu24:=AC;have HB:=Aside0.mk (Ao w.heap.size w);have H:((dec_right.f a0_0 a0_1).bind fun bt317=>((dec_right.f a1_0 a1_1).bind fun bt319=>((dec_none.f bt317.1 bt317.2 bt319.1 bt319.2).bind fun t321=>(if t321=true then((dec_nan.f).bind fun bt322=>(some (bt322.1,bt322.2)))else(if bt317.1=0 then(dec_Mul.j0 k (bt319.1 !=0) bt317.1 bt317.2 bt319.1 bt319.2)else(dec_Mul.j0 k true bt317.1 bt317.2 bt319.1 bt319.2))))))=some (r1,r2):=h;clear h;replace H:=AB.mp H;obtain⟨⟨t317,t318⟩,A30,H⟩:=H;replace H:((dec_right.f a1_0 a1_1).bind fun bt319=>((dec_none.f t317 t318 bt319.1 bt319.2).bind fun t321=>(if t321=true then((dec_nan.f).bind fun bt322=>(some (bt322.1,bt322.2)))else(if t317=0 then(dec_Mul.j0 k (bt319.1 !=0) t317 t318 bt319.1 bt319.2)else(dec_Mul.j0 k true t317 t318 bt319.1 bt319.2)))))=some (r1,r2):=H;have A3:=Aside0.mk A30;clear A30;replace H:=AB.mp H;obtain⟨⟨t319,t320⟩,A40,H⟩:=H;replace H:((dec_none.f t317 t318 t319 t320).bind fun t321=>(if t321=true then((dec_nan.f).bind fun bt322=>(some (bt322.1,bt322.2)))else(if t317=0 then(dec_Mul.j0 k (t319 !=0) t317 t318 t319 t320)else(dec_Mul.j0 k true t317 t318 t319 t320))))=some (r1,r2):=H;have A4:=Aside0.mk A40;clear A40;replace H:=AB.mp H;obtain⟨t321,A50,H⟩:=H;replace H:(if t321=true then((dec_nan.f).bind fun bt322=>(some (bt322.1,bt322.2)))else(if t317=0 then(dec_Mul.j0 k (t319 !=0) t317 t318 t319 t320)else(dec_Mul.j0 k true t317 t318 t319 t320)))=some (r1,r2):=H;have A5:=Aside0.mk A50;clear A50;by_cases c6:t321=true
 ·subst c6;have H1:((dec_nan.f).bind fun bt322=>(some (bt322.1,bt322.2)))=some (r1,r2):=by rw [if_pos rfl]at H;exact H
  clear H;have H:=H1;clear H1;replace H:=AB.mp H;obtain⟨⟨t322,t323⟩,A70,H⟩:=H;replace H:(some (t322,t323))=some (r1,r2):=H;have A7:=Aside0.mk A70;clear A70;simp only [Ay.injEq,AU]at H;obtain⟨rfl,rfl⟩:=H;go_enter Tryz.func128,Tryz.ntmps128
  try go_wp2_with (first | ((with_reducible refine qc1 (N:=2) rfl ?_);refine qa1 ?hg (N:=2) ?hd (cs:= #[Aa Ab a0_0,Aa Ab a0_1]) (t:=24) ?hr ?_;(case hd=>rfl);(case hg=>rfl);(case hr=>first | (go_simp;done) | (go_simp;rfl));intro gb314 hg w8 hbox hb;have BK314:=Aside0.mk (hbox);have GW314:=Aside0.mk ((by rw [hg];exact(qu zj):w.heap.size≤gb314));have GE314:=Aside0.mk ((by rw [hg];exact(qu zj):w.heap.size≤gb314));replace HB:=Aside0.mk (qw zj hb);clear hb hbox hg) | ((with_reducible refine qc1 (N:=3) rfl ?_);refine qa1 ?hg (N:=3) ?hd (cs:= #[Aa Ab a1_0,Aa Ab a1_1]) (t:=24) ?hr ?_;(case hd=>rfl);(case hg=>rfl);(case hr=>first | (go_simp;done) | (go_simp;rfl));intro gb315 hg w9 hbox hb;have BK315:=Aside0.mk (hbox);have GW315:=Aside0.mk ((by rw [hg];exact(qu zak):w.heap.size≤gb315));have GE315:=Aside0.mk ((by rw [hg];exact(qu zak):w.heap.size≤gb315));replace HB:=Aside0.mk (qw zak hb);have NB314_315:=Aside0.mk ((by rw [hg];exact Bg (ql1 (g:=gb314) (o:= .cells #[Aa Ab a0_0,Aa Ab a0_1] 24 (0,0)) (za BK314.out)):gb314≠gb315));have NB315_314:=Aside0.mk ((by rw [hg];exact Bc (ql1 (g:=gb314) (o:= .cells #[Aa Ab a0_0,Aa Ab a0_1] 24 (0,0)) (za BK314.out)):gb315≠gb314));replace BK314:=Aside0.mk (qn (g:=gb314) (o:= .cells #[Aa Ab a0_0,Aa Ab a0_1] 24 (0,0)) (za BK314.out) hb);clear hb hbox hg) | ((with_reducible refine qc1 (N:=4) rfl ?_);refine qa1 ?hg (N:=4) ?hd (cs:= #[Aa Ab 0,Aa Ab 0]) (t:=24) ?hr ?_;(case hd=>rfl);(case hg=>rfl);(case hr=>first | (go_simp;done) | (go_simp;rfl));intro gb316 hg w10 hbox hb;have BK316:=Aside0.mk (hbox);have GW316:=Aside0.mk ((by rw [hg];exact(qu zaa):w.heap.size≤gb316));have GE316:=Aside0.mk ((by rw [hg];exact(qu zaa):w.heap.size≤gb316));replace HB:=Aside0.mk (qw zaa hb);have NB314_316:=Aside0.mk ((by rw [hg];exact Bg (ql1 (g:=gb314) (o:= .cells #[Aa Ab a0_0,Aa Ab a0_1] 24 (0,0)) (za BK314.out)):gb314≠gb316));have NB316_314:=Aside0.mk ((by rw [hg];exact Bc (ql1 (g:=gb314) (o:= .cells #[Aa Ab a0_0,Aa Ab a0_1] 24 (0,0)) (za BK314.out)):gb316≠gb314));replace BK314:=Aside0.mk (qn (g:=gb314) (o:= .cells #[Aa Ab a0_0,Aa Ab a0_1] 24 (0,0)) (za BK314.out) hb);have NB315_316:=Aside0.mk ((by rw [hg];exact Bg (ql1 (g:=gb315) (o:= .cells #[Aa Ab a1_0,Aa Ab a1_1] 24 (0,0)) (za BK315.out)):gb315≠gb316));have NB316_315:=Aside0.mk ((by rw [hg];exact Bc (ql1 (g:=gb315) (o:= .cells #[Aa Ab a1_0,Aa Ab a1_1] 24 (0,0)) (za BK315.out)):gb316≠gb315));replace BK315:=Aside0.mk (qn (g:=gb315) (o:= .cells #[Aa Ab a1_0,Aa Ab a1_1] 24 (0,0)) (za BK315.out) hb);clear hb hbox hg))
  replace BK314:=Aside0.mk (qj BK314.out);replace BK315:=Aside0.mk (qj BK315.out);replace BK316:=Aside0.mk (qj BK316.out);replace HB:=Aside0.mk (qh HB.out);refine qq6 (n:=6) (S:=fun w'=>w'.cell? ⟨gb314,0,none⟩=some (Aa Ab a0_0)∧w'.cell? ⟨gb314,1,none⟩=some (Aa Ab a0_1)∧w'.cell? ⟨gb315,0,none⟩=some (Aa Ab a1_0)∧w'.cell? ⟨gb315,1,none⟩=some (Aa Ab a1_1)) (ds:=[4,5]) #[false,false,false,false,false,false] zm rfl rfl ⟨(qm BK314.out 0).trans rfl,(qm BK314.out 1).trans rfl,(qm BK315.out 0).trans rfl,(qm BK315.out 1).trans rfl⟩ (fun hHeld=>?_);generalize w10.drew=w11 at BK314 BK315 BK316 HB hHeld ⊢;refine qz4 (i:=0) (N:=some 10) (v:=?_) (a':=?_) #[true,false,false,false,false,false] rfl rfl zm (fun _ _ _ h=>h) (Bv ⟨by rfl,?_⟩) hHeld ?_ ?_;rotate_left
  ·rintro w' ⟨s0,s1,s2,s3⟩;go_simp
   with_reducible rfl
  rotate_left
  ·simp only [AP,Ap,Aw,Ax,qm1];rfl
  refine qz4 (i:=2) (N:=some 12) (v:=?_) (a':=?_) #[true,false,true,false,false,false] rfl rfl zm (fun _ _ _ h=>h) (Bv ⟨by rfl,?_⟩) hHeld ?_ ?_;rotate_left
  ·rintro w' ⟨s0,s1,s2,s3⟩;go_simp
   with_reducible rfl
  rotate_left
  ·simp only [AP,Ap,Aw,Ax,qm1];rfl
  refine qw9 (i:=1) (N:=some 11) #[true,true,true,false,false,false] rfl rfl zm (by decide) (fun K hK=>?_);refine ql4 Tryz.func159 zm rfl #[.agg #[Aa Ab a0_0,Aa Ab a0_1]] (by rfl) rfl rfl zk ?_
  with_reducible refine(dec_right.calls a0_0 a0_1 t317 t318 _ A3.out).mono ?_
  rintro e w12 ⟨rfl,hb⟩;refine⟨_,rfl,?_⟩;replace BK314:=Aside0.mk (qn (g:=gb314) (o:= .cells #[Aa Ab a0_0,Aa Ab a0_1] 24 (0,0)) (za BK314.out) hb);replace BK315:=Aside0.mk (qn (g:=gb315) (o:= .cells #[Aa Ab a1_0,Aa Ab a1_1] 24 (0,0)) (za BK315.out) hb);replace BK316:=Aside0.mk (qn (g:=gb316) (o:= .cells #[Aa Ab 0,Aa Ab 0] 24 (0,0)) (za BK316.out) hb);replace HB:=Aside0.mk (qw zl hb);(try clear hb);(try clear hb2);(try clear hk);(try clear hi);refine hK.out _ _ ⟨(qm BK314.out 0).trans rfl,(qm BK314.out 1).trans rfl,(qm BK315.out 0).trans rfl,(qm BK315.out 1).trans rfl⟩ (fun hHeld=>?_);clear hK K;refine qk4 (a':=?_) ?_ ?_;rotate_left
  ·show AP _ (some 11) _=_;simp only [AP,Ap,Aw,Ax,qm1];rfl
  refine qw9 (i:=3) (N:=some 13) #[true,true,true,true,false,false] rfl rfl zm (by decide) (fun K hK=>?_);refine ql4 Tryz.func159 zm rfl #[.agg #[Aa Ab a1_0,Aa Ab a1_1]] (by rfl) rfl rfl zk ?_
  with_reducible refine(dec_right.calls a1_0 a1_1 t319 t320 _ A4.out).mono ?_
  rintro e w13 ⟨rfl,hb⟩;refine⟨_,rfl,?_⟩;replace BK314:=Aside0.mk (qn (g:=gb314) (o:= .cells #[Aa Ab a0_0,Aa Ab a0_1] 24 (0,0)) (za BK314.out) hb);replace BK315:=Aside0.mk (qn (g:=gb315) (o:= .cells #[Aa Ab a1_0,Aa Ab a1_1] 24 (0,0)) (za BK315.out) hb);replace BK316:=Aside0.mk (qn (g:=gb316) (o:= .cells #[Aa Ab 0,Aa Ab 0] 24 (0,0)) (za BK316.out) hb);replace HB:=Aside0.mk (qw zl hb);(try clear hb);(try clear hb2);(try clear hk);(try clear hi);refine hK.out _ _ ⟨(qm BK314.out 0).trans rfl,(qm BK314.out 1).trans rfl,(qm BK315.out 0).trans rfl,(qm BK315.out 1).trans rfl⟩ (fun hHeld=>?_);clear hK K;refine qk4 (a':=?_) ?_ ?_;rotate_left
  ·show AP _ (some 13) _=_;simp only [AP,Ap,Aw,Ax,qm1];rfl
  refine qh13 (i:=4) (N:=none) #[true,true,true,true,true,false] rfl rfl zm (by decide) (fun K hK=>?_);have hs14:w13.cell? ⟨gb314,0,none⟩=some (Aa Ab a0_0):=(qm BK314.out 0).trans rfl;have hfs14:=qe BK314.out 0;have hns14_1:=NB315_314.out;have hns14_2:=NB316_314.out;have hms14_1:=NB314_315.out;have hms14_2:=NB314_316.out;have hs15:w13.cell? ⟨gb314,1,none⟩=some (Aa Ab a0_1):=(qm BK314.out 1).trans rfl;have hfs15:=qe BK314.out 1;have hns15_1:=NB315_314.out;have hns15_2:=NB316_314.out;have hms15_1:=NB314_315.out;have hms15_2:=NB314_316.out;refine qn11 (w1:=?_) (by rfl) rfl ?_ ?_;rotate_left
  ·go_simp;rfl
  refine hK.out _ _ ?_;clear hK K;refine qh13 (i:=5) (N:=none) #[true,true,true,true,true,true] rfl rfl zm (by decide) (fun K hK=>?_);have hs16:w13.cell? ⟨gb315,0,none⟩=some (Aa Ab a1_0):=(qm BK315.out 0).trans rfl;have hfs16:=qe BK315.out 0;have hns16_0:=NB314_315.out;have hns16_2:=NB316_315.out;have hms16_0:=NB315_314.out;have hms16_2:=NB315_316.out;have hs17:w13.cell? ⟨gb315,1,none⟩=some (Aa Ab a1_1):=(qm BK315.out 1).trans rfl;have hfs17:=qe BK315.out 1;have hns17_0:=NB314_315.out;have hns17_2:=NB316_315.out;have hms17_0:=NB315_314.out;have hms17_2:=NB315_316.out;refine qn11 (w1:=?_) (by rfl) rfl ?_ ?_;rotate_left
  ·go_simp;rfl
  refine hK.out _ _ ?_;clear hK K;refine qa12 zm ?_;have hnb18:=NB314_315.out;have hnc18:=NB315_314.out;have hnb19:=NB314_316.out;have hnc19:=NB316_314.out;have hcz20_0:w13.cell? ⟨gb314,0,none⟩=some (Aa Ab a0_0):=(qm BK314.out 0).trans rfl;have hcz20_1:w13.cell? ⟨gb314,1,none⟩=some (Aa Ab a0_1):=(qm BK314.out 1).trans rfl;have hfz20_0:=qe BK314.out 0;have hfz20_1:=qe BK314.out 1;have hnb21:=NB315_316.out;have hnc21:=NB316_315.out;have hcz22_0:w13.cell? ⟨gb315,0,none⟩=some (Aa Ab a1_0):=(qm BK315.out 0).trans rfl;have hcz22_1:w13.cell? ⟨gb315,1,none⟩=some (Aa Ab a1_1):=(qm BK315.out 1).trans rfl;have hfz22_0:=qe BK315.out 0;have hfz22_1:=qe BK315.out 1
  try go_wp2_with (first | ((with_reducible refine qi1 (f:=163) rfl ?_);refine qr2 (some 16) rfl rfl Tryz.func163 zm rfl #[.agg #[Aa Ab t317,Aa Ab t318],.agg #[Aa Ab t319,Aa Ab t320]] rfl zk ?_;(with_reducible refine(dec_none.calls t317 t318 t319 t320 true _ A5.out).mono ?_);rintro e w23 ⟨rfl,hb⟩;refine⟨_,rfl,?_⟩;replace BK314:=Aside0.mk (qn (g:=gb314) (o:= .cells #[Aa Ab t317,Aa Ab t318] 24 (0,0)) (ze BK314.out) hb);replace BK315:=Aside0.mk (qn (g:=gb315) (o:= .cells #[Aa Ab t319,Aa Ab t320] 24 (0,0)) (zg BK315.out) hb);replace BK316:=Aside0.mk (qn (g:=gb316) (o:= .cells #[Aa Ab 0,Aa Ab 0] 24 (0,0)) (zi BK316.out) hb);replace HB:=Aside0.mk (qw zl hb);(try clear hb);(try clear hb2);(try clear hk);(try clear hi)) | ((with_reducible refine qi1 (f:=164) rfl ?_);refine qr2 (some 17) rfl rfl Tryz.func164 zm rfl #[] rfl zk ?_;(with_reducible refine(dec_nan.calls t322 t323 _ A7.out).mono ?_);rintro e w24 ⟨rfl,hb⟩;refine⟨_,rfl,?_⟩;replace BK314:=Aside0.mk (qn (g:=gb314) (o:= .cells #[Aa Ab t317,Aa Ab t318] 24 (0,0)) (za BK314.out) hb);replace BK315:=Aside0.mk (qn (g:=gb315) (o:= .cells #[Aa Ab t319,Aa Ab t320] 24 (0,0)) (za BK315.out) hb);replace BK316:=Aside0.mk (qn (g:=gb316) (o:= .cells #[Aa Ab 0,Aa Ab 0] 24 (0,0)) (za BK316.out) hb);replace HB:=Aside0.mk (qw zl hb);(try clear hb);(try clear hb2);(try clear hk);(try clear hi);have hcz25_0:w24.cell? ⟨gb316,0,none⟩=some (Aa Ab 0):=(qm BK316.out 0).trans rfl;have hcz25_1:w24.cell? ⟨gb316,1,none⟩=some (Aa Ab 0):=(qm BK316.out 1).trans rfl;have hfz25_0:=qe BK316.out 0;have hfz25_1:=qe BK316.out 1))
  refine bodyPost_ret (results_cell_row rfl _ _ gb316 24 #[Aa Ab t322,Aa Ab t323] (0,0) _ rfl (by(with_reducible repeat(first | refine qi ?_ _ | refine qj ?_ | refine qb ?_ _));refine qk (cs:= #[Aa Ab t322,Aa Ab 0]) ?_ 1 _ rfl;(with_reducible repeat(first | refine qi ?_ _ | refine qj ?_ | refine qb ?_ _));refine qk (cs:= #[Aa Ab 0,Aa Ab 0]) ?_ 0 _ rfl;(with_reducible repeat(first | refine qi ?_ _ | refine qj ?_ | refine qb ?_ _));exact BK316.out) AC rfl zm) rfl ?_;exact⟨zo,zl⟩
 ·replace c6:=AR.mpr c6;subst c6;have H1:(if t317=0 then(dec_Mul.j0 k (t319 !=0) t317 t318 t319 t320)else(dec_Mul.j0 k true t317 t318 t319 t320))=some (r1,r2):=by rw [if_neg (show ¬ (false=true) by decide)]at H;exact H
  clear H;have H:=H1;clear H1;have HC26:=Aside0.mk H;clear H;go_enter Tryz.func128,Tryz.ntmps128
  try go_wp2_with (first | ((with_reducible refine qc1 (N:=2) rfl ?_);refine qa1 ?hg (N:=2) ?hd (cs:= #[Aa Ab a0_0,Aa Ab a0_1]) (t:=24) ?hr ?_;(case hd=>rfl);(case hg=>rfl);(case hr=>first | (go_simp;done) | (go_simp;rfl));intro gb314 hg w27 hbox hb;have BK314:=Aside0.mk (hbox);have GW314:=Aside0.mk ((by rw [hg];exact(qu zj):w.heap.size≤gb314));have GE314:=Aside0.mk ((by rw [hg];exact(qu zj):w.heap.size≤gb314));replace HB:=Aside0.mk (qw zj hb);clear hb hbox hg) | ((with_reducible refine qc1 (N:=3) rfl ?_);refine qa1 ?hg (N:=3) ?hd (cs:= #[Aa Ab a1_0,Aa Ab a1_1]) (t:=24) ?hr ?_;(case hd=>rfl);(case hg=>rfl);(case hr=>first | (go_simp;done) | (go_simp;rfl));intro gb315 hg w28 hbox hb;have BK315:=Aside0.mk (hbox);have GW315:=Aside0.mk ((by rw [hg];exact(qu zak):w.heap.size≤gb315));have GE315:=Aside0.mk ((by rw [hg];exact(qu zak):w.heap.size≤gb315));replace HB:=Aside0.mk (qw zak hb);have NB314_315:=Aside0.mk ((by rw [hg];exact Bg (ql1 (g:=gb314) (o:= .cells #[Aa Ab a0_0,Aa Ab a0_1] 24 (0,0)) (za BK314.out)):gb314≠gb315));have NB315_314:=Aside0.mk ((by rw [hg];exact Bc (ql1 (g:=gb314) (o:= .cells #[Aa Ab a0_0,Aa Ab a0_1] 24 (0,0)) (za BK314.out)):gb315≠gb314));replace BK314:=Aside0.mk (qn (g:=gb314) (o:= .cells #[Aa Ab a0_0,Aa Ab a0_1] 24 (0,0)) (za BK314.out) hb);clear hb hbox hg) | ((with_reducible refine qc1 (N:=4) rfl ?_);refine qa1 ?hg (N:=4) ?hd (cs:= #[Aa Ab 0,Aa Ab 0]) (t:=24) ?hr ?_;(case hd=>rfl);(case hg=>rfl);(case hr=>first | (go_simp;done) | (go_simp;rfl));intro gb316 hg w29 hbox hb;have BK316:=Aside0.mk (hbox);have GW316:=Aside0.mk ((by rw [hg];exact(qu zaa):w.heap.size≤gb316));have GE316:=Aside0.mk ((by rw [hg];exact(qu zaa):w.heap.size≤gb316));replace HB:=Aside0.mk (qw zaa hb);have NB314_316:=Aside0.mk ((by rw [hg];exact Bg (ql1 (g:=gb314) (o:= .cells #[Aa Ab a0_0,Aa Ab a0_1] 24 (0,0)) (za BK314.out)):gb314≠gb316));have NB316_314:=Aside0.mk ((by rw [hg];exact Bc (ql1 (g:=gb314) (o:= .cells #[Aa Ab a0_0,Aa Ab a0_1] 24 (0,0)) (za BK314.out)):gb316≠gb314));replace BK314:=Aside0.mk (qn (g:=gb314) (o:= .cells #[Aa Ab a0_0,Aa Ab a0_1] 24 (0,0)) (za BK314.out) hb);have NB315_316:=Aside0.mk ((by rw [hg];exact Bg (ql1 (g:=gb315) (o:= .cells #[Aa Ab a1_0,Aa Ab a1_1] 24 (0,0)) (za BK315.out)):gb315≠gb316));have NB316_315:=Aside0.mk ((by rw [hg];exact Bc (ql1 (g:=gb315) (o:= .cells #[Aa Ab a1_0,Aa Ab a1_1] 24 (0,0)) (za BK315.out)):gb316≠gb315));replace BK315:=Aside0.mk (qn (g:=gb315) (o:= .cells #[Aa Ab a1_0,Aa Ab a1_1] 24 (0,0)) (za BK315.out) hb);clear hb hbox hg))
  replace BK314:=Aside0.mk (qj BK314.out);replace BK315:=Aside0.mk (qj BK315.out);replace BK316:=Aside0.mk (qj BK316.out);replace HB:=Aside0.mk (qh HB.out);refine qq6 (n:=6) (S:=fun w'=>w'.cell? ⟨gb314,0,none⟩=some (Aa Ab a0_0)∧w'.cell? ⟨gb314,1,none⟩=some (Aa Ab a0_1)∧w'.cell? ⟨gb315,0,none⟩=some (Aa Ab a1_0)∧w'.cell? ⟨gb315,1,none⟩=some (Aa Ab a1_1)) (ds:=[4,5]) #[false,false,false,false,false,false] zm rfl rfl ⟨(qm BK314.out 0).trans rfl,(qm BK314.out 1).trans rfl,(qm BK315.out 0).trans rfl,(qm BK315.out 1).trans rfl⟩ (fun hHeld=>?_);generalize w29.drew=w30 at BK314 BK315 BK316 HB hHeld ⊢;refine qz4 (i:=0) (N:=some 10) (v:=?_) (a':=?_) #[true,false,false,false,false,false] rfl rfl zm (fun _ _ _ h=>h) (Bv ⟨by rfl,?_⟩) hHeld ?_ ?_;rotate_left
  ·rintro w' ⟨s0,s1,s2,s3⟩;go_simp
   with_reducible rfl
  rotate_left
  ·simp only [AP,Ap,Aw,Ax,qm1];rfl
  refine qz4 (i:=2) (N:=some 12) (v:=?_) (a':=?_) #[true,false,true,false,false,false] rfl rfl zm (fun _ _ _ h=>h) (Bv ⟨by rfl,?_⟩) hHeld ?_ ?_;rotate_left
  ·rintro w' ⟨s0,s1,s2,s3⟩;go_simp
   with_reducible rfl
  rotate_left
  ·simp only [AP,Ap,Aw,Ax,qm1];rfl
  refine qw9 (i:=1) (N:=some 11) #[true,true,true,false,false,false] rfl rfl zm (by decide) (fun K hK=>?_);refine ql4 Tryz.func159 zm rfl #[.agg #[Aa Ab a0_0,Aa Ab a0_1]] (by rfl) rfl rfl zk ?_
  with_reducible refine(dec_right.calls a0_0 a0_1 t317 t318 _ A3.out).mono ?_
  rintro e w31 ⟨rfl,hb⟩;refine⟨_,rfl,?_⟩;replace BK314:=Aside0.mk (qn (g:=gb314) (o:= .cells #[Aa Ab a0_0,Aa Ab a0_1] 24 (0,0)) (za BK314.out) hb);replace BK315:=Aside0.mk (qn (g:=gb315) (o:= .cells #[Aa Ab a1_0,Aa Ab a1_1] 24 (0,0)) (za BK315.out) hb);replace BK316:=Aside0.mk (qn (g:=gb316) (o:= .cells #[Aa Ab 0,Aa Ab 0] 24 (0,0)) (za BK316.out) hb);replace HB:=Aside0.mk (qw zl hb);(try clear hb);(try clear hb2);(try clear hk);(try clear hi);refine hK.out _ _ ⟨(qm BK314.out 0).trans rfl,(qm BK314.out 1).trans rfl,(qm BK315.out 0).trans rfl,(qm BK315.out 1).trans rfl⟩ (fun hHeld=>?_);clear hK K;refine qk4 (a':=?_) ?_ ?_;rotate_left
  ·show AP _ (some 11) _=_;simp only [AP,Ap,Aw,Ax,qm1];rfl
  refine qw9 (i:=3) (N:=some 13) #[true,true,true,true,false,false] rfl rfl zm (by decide) (fun K hK=>?_);refine ql4 Tryz.func159 zm rfl #[.agg #[Aa Ab a1_0,Aa Ab a1_1]] (by rfl) rfl rfl zk ?_
  with_reducible refine(dec_right.calls a1_0 a1_1 t319 t320 _ A4.out).mono ?_
  rintro e w32 ⟨rfl,hb⟩;refine⟨_,rfl,?_⟩;replace BK314:=Aside0.mk (qn (g:=gb314) (o:= .cells #[Aa Ab a0_0,Aa Ab a0_1] 24 (0,0)) (za BK314.out) hb);replace BK315:=Aside0.mk (qn (g:=gb315) (o:= .cells #[Aa Ab a1_0,Aa Ab a1_1] 24 (0,0)) (za BK315.out) hb);replace BK316:=Aside0.mk (qn (g:=gb316) (o:= .cells #[Aa Ab 0,Aa Ab 0] 24 (0,0)) (za BK316.out) hb);replace HB:=Aside0.mk (qw zl hb);(try clear hb);(try clear hb2);(try clear hk);(try clear hi);refine hK.out _ _ ⟨(qm BK314.out 0).trans rfl,(qm BK314.out 1).trans rfl,(qm BK315.out 0).trans rfl,(qm BK315.out 1).trans rfl⟩ (fun hHeld=>?_);clear hK K;refine qk4 (a':=?_) ?_ ?_;rotate_left
  ·show AP _ (some 13) _=_;simp only [AP,Ap,Aw,Ax,qm1];rfl
  refine qh13 (i:=4) (N:=none) #[true,true,true,true,true,false] rfl rfl zm (by decide) (fun K hK=>?_);have hs33:w32.cell? ⟨gb314,0,none⟩=some (Aa Ab a0_0):=(qm BK314.out 0).trans rfl;have hfs33:=qe BK314.out 0;have hns33_1:=NB315_314.out;have hns33_2:=NB316_314.out;have hms33_1:=NB314_315.out;have hms33_2:=NB314_316.out;have hs34:w32.cell? ⟨gb314,1,none⟩=some (Aa Ab a0_1):=(qm BK314.out 1).trans rfl;have hfs34:=qe BK314.out 1;have hns34_1:=NB315_314.out;have hns34_2:=NB316_314.out;have hms34_1:=NB314_315.out;have hms34_2:=NB314_316.out;refine qn11 (w1:=?_) (by rfl) rfl ?_ ?_;rotate_left
  ·go_simp;rfl
  refine hK.out _ _ ?_;clear hK K;refine qh13 (i:=5) (N:=none) #[true,true,true,true,true,true] rfl rfl zm (by decide) (fun K hK=>?_);have hs35:w32.cell? ⟨gb315,0,none⟩=some (Aa Ab a1_0):=(qm BK315.out 0).trans rfl;have hfs35:=qe BK315.out 0;have hns35_0:=NB314_315.out;have hns35_2:=NB316_315.out;have hms35_0:=NB315_314.out;have hms35_2:=NB315_316.out;have hs36:w32.cell? ⟨gb315,1,none⟩=some (Aa Ab a1_1):=(qm BK315.out 1).trans rfl;have hfs36:=qe BK315.out 1;have hns36_0:=NB314_315.out;have hns36_2:=NB316_315.out;have hms36_0:=NB315_314.out;have hms36_2:=NB315_316.out;refine qn11 (w1:=?_) (by rfl) rfl ?_ ?_;rotate_left
  ·go_simp;rfl
  refine hK.out _ _ ?_;clear hK K;refine qa12 zm ?_;have hnb37:=NB314_315.out;have hnc37:=NB315_314.out;have hnb38:=NB314_316.out;have hnc38:=NB316_314.out;have hcz39_0:w32.cell? ⟨gb314,0,none⟩=some (Aa Ab a0_0):=(qm BK314.out 0).trans rfl;have hcz39_1:w32.cell? ⟨gb314,1,none⟩=some (Aa Ab a0_1):=(qm BK314.out 1).trans rfl;have hfz39_0:=qe BK314.out 0;have hfz39_1:=qe BK314.out 1;have hnb40:=NB315_316.out;have hnc40:=NB316_315.out;have hcz41_0:w32.cell? ⟨gb315,0,none⟩=some (Aa Ab a1_0):=(qm BK315.out 0).trans rfl;have hcz41_1:w32.cell? ⟨gb315,1,none⟩=some (Aa Ab a1_1):=(qm BK315.out 1).trans rfl;have hfz41_0:=qe BK315.out 0;have hfz41_1:=qe BK315.out 1
  go_upto_region 4 with (first | ((with_reducible refine qi1 (f:=163) rfl ?_);refine qr2 (some 16) rfl rfl Tryz.func163 zm rfl #[.agg #[Aa Ab t317,Aa Ab t318],.agg #[Aa Ab t319,Aa Ab t320]] rfl zk ?_;(with_reducible refine(dec_none.calls t317 t318 t319 t320 false _ A5.out).mono ?_);rintro e w42 ⟨rfl,hb⟩;refine⟨_,rfl,?_⟩;replace BK314:=Aside0.mk (qn (g:=gb314) (o:= .cells #[Aa Ab t317,Aa Ab t318] 24 (0,0)) (ze BK314.out) hb);replace BK315:=Aside0.mk (qn (g:=gb315) (o:= .cells #[Aa Ab t319,Aa Ab t320] 24 (0,0)) (zg BK315.out) hb);replace BK316:=Aside0.mk (qn (g:=gb316) (o:= .cells #[Aa Ab 0,Aa Ab 0] 24 (0,0)) (zi BK316.out) hb);replace HB:=Aside0.mk (qw zl hb);(try clear hb);(try clear hb2);(try clear hk);(try clear hi)))
  (try simp only [AP,Ap,Aw,Ax]);go_cut [25] (fun v25 wc=>∃ (kq:Nat) (x25_25:Bool),v25= Ae x25_25∧Aside0 (dec_Mul.j0 kq x25_25 t317 t318 t319 t320=some (r1,r2))∧Aside0 (kq≤k)∧Aside0 (wc.heap[gb314]?=some (.cells #[Aa Ab t317,Aa Ab t318] 24 (0,0)))∧Aside0 (wc.heap[gb315]?=some (.cells #[Aa Ab t319,Aa Ab t320] 24 (0,0)))∧Aside0 (wc.heap[gb316]?=some (.cells #[Aa Ab 0,Aa Ab 0] 24 (0,0)))∧Aside0 (Below w.heap.size w wc))
  case first=>
   have H:=HC26.out;clear HC26;by_cases c43:t317=0
   ·rw [if_pos c43]at H;have c43b0:(t317 == 0)=true:=beq_iff_eq.mpr c43;have c43b1:(t317 !=0)=false:=bne_eq_false_iff_eq.mpr c43;clear c43
    (first | rw [c43b0] | (simp only [qm1];rw [c43b0]) | skip)
    have H':=Aside0.mk H;clear H;have hnb44:=NB314_315.out;have hnc44:=NB315_314.out;have hnb45:=NB314_316.out;have hnc45:=NB316_314.out;have hcz46_0:w42.cell? ⟨gb314,0,none⟩=some (Aa Ab t317):=(qm BK314.out 0).trans rfl;have hcz46_1:w42.cell? ⟨gb314,1,none⟩=some (Aa Ab t318):=(qm BK314.out 1).trans rfl;have hfz46_0:=qe BK314.out 0;have hfz46_1:=qe BK314.out 1;have hnb47:=NB315_316.out;have hnc47:=NB316_315.out;have hcz48_0:w42.cell? ⟨gb315,0,none⟩=some (Aa Ab t319):=(qm BK315.out 0).trans rfl;have hcz48_1:w42.cell? ⟨gb315,1,none⟩=some (Aa Ab t320):=(qm BK315.out 1).trans rfl;have hfz48_0:=qe BK315.out 0;have hfz48_1:=qe BK315.out 1;go_wp2;go_meet
    case rel=>exact⟨_,((t319 !=0)),zq,H',⟨zas⟩,⟨by(with_reducible repeat(first | refine qi ?_ _ | refine qj ?_ | refine qb ?_ _));exact BK314.out⟩,⟨by(with_reducible repeat(first | refine qi ?_ _ | refine qj ?_ | refine qb ?_ _));exact BK315.out⟩,⟨by(with_reducible repeat(first | refine qi ?_ _ | refine qj ?_ | refine qb ?_ _));exact BK316.out⟩,⟨zl⟩⟩
   ·rw [if_neg c43]at H;have c43b0:(t317 == 0)=false:=beq_eq_false_iff_ne.mpr c43;have c43b1:(t317 !=0)=true:=bne_iff_ne.mpr c43
    (first | rw [c43b0] | (simp only [qm1];rw [c43b0]) | skip)
    have H':=Aside0.mk H;clear H;have hnb49:=NB314_315.out;have hnc49:=NB315_314.out;have hnb50:=NB314_316.out;have hnc50:=NB316_314.out;have hcz51_0:w42.cell? ⟨gb314,0,none⟩=some (Aa Ab t317):=(qm BK314.out 0).trans rfl;have hcz51_1:w42.cell? ⟨gb314,1,none⟩=some (Aa Ab t318):=(qm BK314.out 1).trans rfl;have hfz51_0:=qe BK314.out 0;have hfz51_1:=qe BK314.out 1;go_wp2;go_meet
    case rel=>exact⟨_,(true),zq,H',⟨zas⟩,⟨by(with_reducible repeat(first | refine qi ?_ _ | refine qj ?_ | refine qb ?_ _));exact BK314.out⟩,⟨by(with_reducible repeat(first | refine qi ?_ _ | refine qj ?_ | refine qb ?_ _));exact BK315.out⟩,⟨by(with_reducible repeat(first | refine qi ?_ _ | refine qj ?_ | refine qb ?_ _));exact BK316.out⟩,⟨zl⟩⟩
  case rest=>
   clear HC26
   try clear c1
   try clear c2
   try clear p2
   try clear c3
   try clear c4
   try clear c5
   try clear c6
   try clear c12
   try clear c15
   try clear c16
   try clear c18
   try clear c19
   try clear c21
   try clear c37
   try clear c38
   try clear c40
   try clear c43
   try clear c43b0
   try clear c43b1
   try clear c44
   try clear c45
   try clear c47
   try clear c49
   try clear c50
   try clear hcz20_0
   try clear hcz20_1
   try clear hcz22_0
   try clear hcz22_1
   try clear hcz25_0
   try clear hcz25_1
   try clear hcz39_0
   try clear hcz39_1
   try clear hcz41_0
   try clear hcz41_1
   try clear hcz46_0
   try clear hcz46_1
   try clear hcz48_0
   try clear hcz48_1
   try clear hcz51_0
   try clear hcz51_1
   try clear hfz20_0
   try clear hfz20_1
   try clear hfz22_0
   try clear hfz22_1
   try clear hfz25_0
   try clear hfz25_1
   try clear hfz39_0
   try clear hfz39_1
   try clear hfz41_0
   try clear hfz41_1
   try clear hfz46_0
   try clear hfz46_1
   try clear hfz48_0
   try clear hfz48_1
   try clear hfz51_0
   try clear hfz51_1
   obtain⟨kq,x25_25,rfl,HA,HJ25,BK314,BK315,BK316,HB⟩:=hcut
   cases kq with
   | zero=>exact absurd HA.out (by simp [dec_Mul.j0])
   | succ kj25=>
    have H:=HA.out;clear HA;simp only [dec_Mul.j0]at H;by_cases c52:x25_25=true
    ·subst c52;have H1:((dec_sign.f kj25 t317 t318).bind fun t324=>((dec_sign.f kj25 t319 t320).bind fun t325=>((dec_great.f (wrap64 (t324*t325))).bind fun bt326=>(some (bt326.1,bt326.2)))))=some (r1,r2):=by rw [if_pos rfl]at H;exact H
     clear H;have H:=H1;clear H1;replace H:=AB.mp H;obtain⟨t324,A530,H⟩:=H;replace H:((dec_sign.f kj25 t319 t320).bind fun t325=>((dec_great.f (wrap64 (t324*t325))).bind fun bt326=>(some (bt326.1,bt326.2))))=some (r1,r2):=H;have A53:=Aside0.mk A530;clear A530;replace H:=AB.mp H;obtain⟨t325,A540,H⟩:=H;replace H:((dec_great.f (wrap64 (t324*t325))).bind fun bt326=>(some (bt326.1,bt326.2)))=some (r1,r2):=H;have A54:=Aside0.mk A540;clear A540;replace H:=AB.mp H;obtain⟨⟨t326,t327⟩,A550,H⟩:=H;replace H:(some (t326,t327))=some (r1,r2):=H;have A55:=Aside0.mk A550;clear A550;simp only [Ay.injEq,AU]at H;obtain⟨rfl,rfl⟩:=H
     try go_wp2
     replace BK314:=Aside0.mk (qj BK314.out);replace BK315:=Aside0.mk (qj BK315.out);replace BK316:=Aside0.mk (qj BK316.out);replace HB:=Aside0.mk (qh HB.out);refine qq6 (n:=7) (S:=fun w'=>w'.cell? ⟨gb314,0,none⟩=some (Aa Ab t317)∧w'.cell? ⟨gb314,1,none⟩=some (Aa Ab t318)∧w'.cell? ⟨gb315,0,none⟩=some (Aa Ab t319)∧w'.cell? ⟨gb315,1,none⟩=some (Aa Ab t320)) (ds:=[]) #[false,false,false,false,false,false,false] zm rfl rfl ⟨(qm BK314.out 0).trans rfl,(qm BK314.out 1).trans rfl,(qm BK315.out 0).trans rfl,(qm BK315.out 1).trans rfl⟩ (fun hHeld=>?_);generalize wc.drew=w56 at BK314 BK315 BK316 HB hHeld ⊢;refine qz4 (i:=0) (N:=some 26) (v:=?_) (a':=?_) #[true,false,false,false,false,false,false] rfl rfl zm (fun _ _ _ h=>h) (Bv ⟨by rfl,?_⟩) hHeld ?_ ?_;rotate_left
     ·rintro w' ⟨s0,s1,s2,s3⟩;go_simp
      with_reducible rfl
     rotate_left
     ·simp only [AP,Ap,Aw,Ax,qm1];rfl
     refine qz4 (i:=2) (N:=some 28) (v:=?_) (a':=?_) #[true,false,true,false,false,false,false] rfl rfl zm (fun _ _ _ h=>h) (Bv ⟨by rfl,?_⟩) hHeld ?_ ?_;rotate_left
     ·rintro w' ⟨s0,s1,s2,s3⟩;go_simp
      with_reducible rfl
     rotate_left
     ·simp only [AP,Ap,Aw,Ax,qm1];rfl
     refine qw9 (i:=1) (N:=some 27) #[true,true,true,false,false,false,false] rfl rfl zm (by decide) (fun K hK=>?_);refine ql4 Tryz.func166 zm rfl #[.agg #[Aa Ab t317,Aa Ab t318]] (by rfl) rfl rfl zk ?_
     with_reducible refine(dec_sign.calls kj25 t317 t318 t324 _ A53.out).mono ?_
     rintro e w57 ⟨rfl,hb⟩;refine⟨_,rfl,?_⟩;replace BK314:=Aside0.mk (qn (g:=gb314) (o:= .cells #[Aa Ab t317,Aa Ab t318] 24 (0,0)) (za BK314.out) hb);replace BK315:=Aside0.mk (qn (g:=gb315) (o:= .cells #[Aa Ab t319,Aa Ab t320] 24 (0,0)) (za BK315.out) hb);replace BK316:=Aside0.mk (qn (g:=gb316) (o:= .cells #[Aa Ab 0,Aa Ab 0] 24 (0,0)) (za BK316.out) hb);replace HB:=Aside0.mk (qw zl hb);(try clear hb);(try clear hb2);(try clear hk);(try clear hi);refine hK.out _ _ ⟨(qm BK314.out 0).trans rfl,(qm BK314.out 1).trans rfl,(qm BK315.out 0).trans rfl,(qm BK315.out 1).trans rfl⟩ (fun hHeld=>?_);clear hK K;refine qk4 (a':=?_) ?_ ?_;rotate_left
     ·show AP _ (some 27) _=_;simp only [AP,Ap,Aw,Ax,qm1];rfl
     refine qw9 (i:=3) (N:=some 29) #[true,true,true,true,false,false,false] rfl rfl zm (by decide) (fun K hK=>?_);refine ql4 Tryz.func166 zm rfl #[.agg #[Aa Ab t319,Aa Ab t320]] (by rfl) rfl rfl zk ?_
     with_reducible refine(dec_sign.calls kj25 t319 t320 t325 _ A54.out).mono ?_
     rintro e w58 ⟨rfl,hb⟩;refine⟨_,rfl,?_⟩;replace BK314:=Aside0.mk (qn (g:=gb314) (o:= .cells #[Aa Ab t317,Aa Ab t318] 24 (0,0)) (za BK314.out) hb);replace BK315:=Aside0.mk (qn (g:=gb315) (o:= .cells #[Aa Ab t319,Aa Ab t320] 24 (0,0)) (za BK315.out) hb);replace BK316:=Aside0.mk (qn (g:=gb316) (o:= .cells #[Aa Ab 0,Aa Ab 0] 24 (0,0)) (za BK316.out) hb);replace HB:=Aside0.mk (qw zl hb);(try clear hb);(try clear hb2);(try clear hk);(try clear hi);refine hK.out _ _ ⟨(qm BK314.out 0).trans rfl,(qm BK314.out 1).trans rfl,(qm BK315.out 0).trans rfl,(qm BK315.out 1).trans rfl⟩ (fun hHeld=>?_);clear hK K;refine qk4 (a':=?_) ?_ ?_;rotate_left
     ·show AP _ (some 29) _=_;simp only [AP,Ap,Aw,Ax,qm1];rfl
     refine qh5 (i:=4) (N:=some 30) (v:=?_) (a':=?_) #[true,true,true,true,true,false,false] rfl rfl zm (fun _ _ _ h=>h) (Bv ⟨by rfl,?_⟩) ?_ ?_;rotate_left
     ·intro w';go_simp
      with_reducible rfl
     rotate_left
     ·simp only [AP,Ap,Aw,Ax,qm1];rfl
     refine qw9 (i:=5) (N:=some 31) #[true,true,true,true,true,true,false] rfl rfl zm (by decide) (fun K hK=>?_);refine ql4 Tryz.func165 zm rfl #[Aa Ab (wrap64 (t324*t325))] (by rfl) rfl rfl zk ?_
     with_reducible refine(dec_great.calls (wrap64 (t324*t325)) t326 t327 _ A55.out).mono ?_
     rintro e w59 ⟨rfl,hb⟩;refine⟨_,rfl,?_⟩;replace BK314:=Aside0.mk (qn (g:=gb314) (o:= .cells #[Aa Ab t317,Aa Ab t318] 24 (0,0)) (za BK314.out) hb);replace BK315:=Aside0.mk (qn (g:=gb315) (o:= .cells #[Aa Ab t319,Aa Ab t320] 24 (0,0)) (za BK315.out) hb);replace BK316:=Aside0.mk (qn (g:=gb316) (o:= .cells #[Aa Ab 0,Aa Ab 0] 24 (0,0)) (za BK316.out) hb);replace HB:=Aside0.mk (qw zl hb);(try clear hb);(try clear hb2);(try clear hk);(try clear hi);refine hK.out _ _ ⟨(qm BK314.out 0).trans rfl,(qm BK314.out 1).trans rfl,(qm BK315.out 0).trans rfl,(qm BK315.out 1).trans rfl⟩ (fun hHeld=>?_);clear hK K;refine qk4 (a':=?_) ?_ ?_;rotate_left
     ·show AP _ (some 31) _=_;simp only [AP,Ap,Aw,Ax,qm1];rfl
     refine qw9 (i:=6) (N:=none) #[true,true,true,true,true,true,true] rfl rfl zm (by decide) (fun K hK=>?_);have hs60:w59.cell? ⟨gb316,0,none⟩=some (Aa Ab 0):=(qm BK316.out 0).trans rfl;have hfs60:=qe BK316.out 0;have hns60_0:=NB314_316.out;have hns60_1:=NB315_316.out;have hms60_0:=NB316_314.out;have hms60_1:=NB316_315.out;have hs61:w59.cell? ⟨gb316,1,none⟩=some (Aa Ab 0):=(qm BK316.out 1).trans rfl;have hfs61:=qe BK316.out 1;have hns61_0:=NB314_316.out;have hns61_1:=NB315_316.out;have hms61_0:=NB316_314.out;have hms61_1:=NB316_315.out;refine qn11 (w1:=?_) (by rfl) rfl ?_ ?_;rotate_left
     ·go_simp;rfl
     refine hK.out _ _ ⟨((qh4 (p:=⟨gb316,_,none⟩) NB314_316.out _).trans (((qh4 (p:=⟨gb316,_,none⟩) NB314_316.out _).trans (hHeld.1)))),((qh4 (p:=⟨gb316,_,none⟩) NB314_316.out _).trans (((qh4 (p:=⟨gb316,_,none⟩) NB314_316.out _).trans (hHeld.2.1)))),((qh4 (p:=⟨gb316,_,none⟩) NB315_316.out _).trans (((qh4 (p:=⟨gb316,_,none⟩) NB315_316.out _).trans (hHeld.2.2.1)))),((qh4 (p:=⟨gb316,_,none⟩) NB315_316.out _).trans (((qh4 (p:=⟨gb316,_,none⟩) NB315_316.out _).trans (hHeld.2.2.2))))⟩ (fun hHeld=>?_);clear hK K;refine qa12 zm ?_
     try go_wp2
     refine bodyPost_ret (results_cell_row rfl _ _ gb316 24 #[Aa Ab t326,Aa Ab t327] (0,0) _ rfl (by(with_reducible repeat(first | refine qi ?_ _ | refine qj ?_ | refine qb ?_ _));refine qk (cs:= #[Aa Ab t326,Aa Ab 0]) ?_ 1 _ rfl;(with_reducible repeat(first | refine qi ?_ _ | refine qj ?_ | refine qb ?_ _));refine qk (cs:= #[Aa Ab 0,Aa Ab 0]) ?_ 0 _ rfl;(with_reducible repeat(first | refine qi ?_ _ | refine qj ?_ | refine qb ?_ _));exact BK316.out) AC rfl zm) rfl ?_;exact⟨zo,zl⟩
    ·replace c52:=AR.mpr c52;subst c52;have H1:((dec_size.f t317 t318).bind fun t328=>((dec_size.f t319 t320).bind fun t329=>((bits_Mul64.f t328 t329).bind fun bt330=>((dec_sign.f kj25 t317 t318).bind fun t332=>((dec_sign.f kj25 t319 t320).bind fun t333=>(if bt330.1≥1000000 then((dec_signed.f kj25 (decide ((wrap64 (t332*t333))<0)) true 0).bind fun bt334=>(some (bt334.1,bt334.2)))else((bits_Div64.f kj25 bt330.1 bt330.2 1000000).bind fun bt336=>((dec_signed.f kj25 (decide ((wrap64 (t332*t333))<0)) false bt336.1).bind fun bt338=>(some (bt338.1,bt338.2))))))))))=some (r1,r2):=by rw [if_neg (show ¬ (false=true) by decide)]at H;exact H
     clear H;have H:=H1;clear H1;replace H:=AB.mp H;obtain⟨t328,A620,H⟩:=H;replace H:((dec_size.f t319 t320).bind fun t329=>((bits_Mul64.f t328 t329).bind fun bt330=>((dec_sign.f kj25 t317 t318).bind fun t332=>((dec_sign.f kj25 t319 t320).bind fun t333=>(if bt330.1≥1000000 then((dec_signed.f kj25 (decide ((wrap64 (t332*t333))<0)) true 0).bind fun bt334=>(some (bt334.1,bt334.2)))else((bits_Div64.f kj25 bt330.1 bt330.2 1000000).bind fun bt336=>((dec_signed.f kj25 (decide ((wrap64 (t332*t333))<0)) false bt336.1).bind fun bt338=>(some (bt338.1,bt338.2)))))))))=some (r1,r2):=H;have A62:=Aside0.mk A620;clear A620;replace H:=AB.mp H;obtain⟨t329,A630,H⟩:=H;replace H:((bits_Mul64.f t328 t329).bind fun bt330=>((dec_sign.f kj25 t317 t318).bind fun t332=>((dec_sign.f kj25 t319 t320).bind fun t333=>(if bt330.1≥1000000 then((dec_signed.f kj25 (decide ((wrap64 (t332*t333))<0)) true 0).bind fun bt334=>(some (bt334.1,bt334.2)))else((bits_Div64.f kj25 bt330.1 bt330.2 1000000).bind fun bt336=>((dec_signed.f kj25 (decide ((wrap64 (t332*t333))<0)) false bt336.1).bind fun bt338=>(some (bt338.1,bt338.2))))))))=some (r1,r2):=H;have A63:=Aside0.mk A630;clear A630;replace H:=AB.mp H;obtain⟨⟨t330,t331⟩,A640,H⟩:=H;replace H:((dec_sign.f kj25 t317 t318).bind fun t332=>((dec_sign.f kj25 t319 t320).bind fun t333=>(if t330≥1000000 then((dec_signed.f kj25 (decide ((wrap64 (t332*t333))<0)) true 0).bind fun bt334=>(some (bt334.1,bt334.2)))else((bits_Div64.f kj25 t330 t331 1000000).bind fun bt336=>((dec_signed.f kj25 (decide ((wrap64 (t332*t333))<0)) false bt336.1).bind fun bt338=>(some (bt338.1,bt338.2)))))))=some (r1,r2):=H;have A64:=Aside0.mk A640;clear A640;replace H:=AB.mp H;obtain⟨t332,A650,H⟩:=H;replace H:((dec_sign.f kj25 t319 t320).bind fun t333=>(if t330≥1000000 then((dec_signed.f kj25 (decide ((wrap64 (t332*t333))<0)) true 0).bind fun bt334=>(some (bt334.1,bt334.2)))else((bits_Div64.f kj25 t330 t331 1000000).bind fun bt336=>((dec_signed.f kj25 (decide ((wrap64 (t332*t333))<0)) false bt336.1).bind fun bt338=>(some (bt338.1,bt338.2))))))=some (r1,r2):=H;have A65:=Aside0.mk A650;clear A650;replace H:=AB.mp H;obtain⟨t333,A660,H⟩:=H;replace H:(if t330≥1000000 then((dec_signed.f kj25 (decide ((wrap64 (t332*t333))<0)) true 0).bind fun bt334=>(some (bt334.1,bt334.2)))else((bits_Div64.f kj25 t330 t331 1000000).bind fun bt336=>((dec_signed.f kj25 (decide ((wrap64 (t332*t333))<0)) false bt336.1).bind fun bt338=>(some (bt338.1,bt338.2)))))=some (r1,r2):=H;have A66:=Aside0.mk A660;clear A660;by_cases c67:t330≥1000000
     ·rw [if_pos c67]at H;have c67b0:decide (1000000≤t330)=true:=decide_eq_true c67;clear c67;replace H:=AB.mp H;obtain⟨⟨t334,t335⟩,A680,H⟩:=H;replace H:(some (t334,t335))=some (r1,r2):=H;have A68:=Aside0.mk A680;clear A680;simp only [Ay.injEq,AU]at H;obtain⟨rfl,rfl⟩:=H
      try go_wp2
      replace BK314:=Aside0.mk (qj BK314.out);replace BK315:=Aside0.mk (qj BK315.out);replace BK316:=Aside0.mk (qj BK316.out);replace HB:=Aside0.mk (qh HB.out);refine qq6 (n:=10) (S:=fun w'=>w'.cell? ⟨gb314,0,none⟩=some (Aa Ab t317)∧w'.cell? ⟨gb314,1,none⟩=some (Aa Ab t318)∧w'.cell? ⟨gb315,0,none⟩=some (Aa Ab t319)∧w'.cell? ⟨gb315,1,none⟩=some (Aa Ab t320)) (ds:=[]) #[false,false,false,false,false,false,false,false,false,false] zm rfl rfl ⟨(qm BK314.out 0).trans rfl,(qm BK314.out 1).trans rfl,(qm BK315.out 0).trans rfl,(qm BK315.out 1).trans rfl⟩ (fun hHeld=>?_);refine qg12 dec_Mul.tab6 dec_Mul.bits6 (fun HT_ HW_=>?_);generalize wc.drew=w69 at BK314 BK315 BK316 HB hHeld ⊢;refine qz4 (i:=0) (N:=some 33) (v:=?_) (a':=?_) #[true,false,false,false,false,false,false,false,false,false] rfl rfl (qk8 HT_.out HW_.out zm) (fun _ _ _ h=>h) (Bv ⟨by rfl,?_⟩) hHeld ?_ ?_;rotate_left
      ·rintro w' ⟨s0,s1,s2,s3⟩;go_simp
       with_reducible rfl
      rotate_left
      ·simp only [AP,Ap,Aw,Ax,qm1];rfl
      refine qz4 (i:=2) (N:=some 35) (v:=?_) (a':=?_) #[true,false,true,false,false,false,false,false,false,false] rfl rfl (qk8 HT_.out HW_.out zm) (fun _ _ _ h=>h) (Bv ⟨by rfl,?_⟩) hHeld ?_ ?_;rotate_left
      ·rintro w' ⟨s0,s1,s2,s3⟩;go_simp
       with_reducible rfl
      rotate_left
      ·simp only [AP,Ap,Aw,Ax,qm1];rfl
      refine qw9 (i:=1) (N:=some 34) #[true,true,true,false,false,false,false,false,false,false] rfl rfl (one_of HT_.out zm) (by decide) (fun K hK=>?_);refine ql4 Tryz.func168 zm rfl #[.agg #[Aa Ab t317,Aa Ab t318]] (by rfl) rfl rfl zk ?_
      with_reducible refine(dec_size.calls t317 t318 t328 _ A62.out).mono ?_
      rintro e w70 ⟨rfl,hb⟩;refine⟨_,rfl,?_⟩;replace BK314:=Aside0.mk (qn (g:=gb314) (o:= .cells #[Aa Ab t317,Aa Ab t318] 24 (0,0)) (za BK314.out) hb);replace BK315:=Aside0.mk (qn (g:=gb315) (o:= .cells #[Aa Ab t319,Aa Ab t320] 24 (0,0)) (za BK315.out) hb);replace BK316:=Aside0.mk (qn (g:=gb316) (o:= .cells #[Aa Ab 0,Aa Ab 0] 24 (0,0)) (za BK316.out) hb);replace HB:=Aside0.mk (qw zl hb);(try clear hb);(try clear hb2);(try clear hk);(try clear hi);refine hK.out _ _ ⟨(qm BK314.out 0).trans rfl,(qm BK314.out 1).trans rfl,(qm BK315.out 0).trans rfl,(qm BK315.out 1).trans rfl⟩ (fun hHeld=>?_);clear hK K;refine qk4 (a':=?_) ?_ ?_;rotate_left
      ·show AP _ (some 34) _=_;simp only [AP,Ap,Aw,Ax,qm1];rfl
      refine qw9 (i:=3) (N:=some 36) #[true,true,true,true,false,false,false,false,false,false] rfl rfl (one_of HT_.out zm) (by decide) (fun K hK=>?_);refine ql4 Tryz.func168 zm rfl #[.agg #[Aa Ab t319,Aa Ab t320]] (by rfl) rfl rfl zk ?_
      with_reducible refine(dec_size.calls t319 t320 t329 _ A63.out).mono ?_
      rintro e w71 ⟨rfl,hb⟩;refine⟨_,rfl,?_⟩;replace BK314:=Aside0.mk (qn (g:=gb314) (o:= .cells #[Aa Ab t317,Aa Ab t318] 24 (0,0)) (za BK314.out) hb);replace BK315:=Aside0.mk (qn (g:=gb315) (o:= .cells #[Aa Ab t319,Aa Ab t320] 24 (0,0)) (za BK315.out) hb);replace BK316:=Aside0.mk (qn (g:=gb316) (o:= .cells #[Aa Ab 0,Aa Ab 0] 24 (0,0)) (za BK316.out) hb);replace HB:=Aside0.mk (qw zl hb);(try clear hb);(try clear hb2);(try clear hk);(try clear hi);refine hK.out _ _ ⟨(qm BK314.out 0).trans rfl,(qm BK314.out 1).trans rfl,(qm BK315.out 0).trans rfl,(qm BK315.out 1).trans rfl⟩ (fun hHeld=>?_);clear hK K;refine qk4 (a':=?_) ?_ ?_;rotate_left
      ·show AP _ (some 36) _=_;simp only [AP,Ap,Aw,Ax,qm1];rfl
      refine qw9 (i:=4) (N:=some 37) #[true,true,true,true,true,false,false,false,false,false] rfl rfl (one_of HT_.out zm) (by decide) (fun K hK=>?_);refine ql4 Tryz.func167 zm rfl #[.int .u64 t328,.int .u64 t329] (by rfl) rfl rfl zk ?_
      with_reducible refine(bits_Mul64.calls t328 t329 t330 t331 _ A64.out).mono ?_
      rintro e w' ⟨rfl,⟨nd,rfl⟩⟩;refine⟨_,rfl,?_⟩;refine hK.out _ _ ⟨(qm BK314.out 0).trans rfl,(qm BK314.out 1).trans rfl,(qm BK315.out 0).trans rfl,(qm BK315.out 1).trans rfl⟩ (fun hHeld=>?_);clear hK K;refine qk4 (a':=?_) ?_ ?_;rotate_left
      ·show AP _ (some 37) _=_;simp only [AP,Ap,Aw,Ax,qm1];rfl
      refine qh5 (i:=5) (N:=some 32) (v:=?_) (a':=?_) #[true,true,true,true,true,true,false,false,false,false] rfl rfl (qg6 HT_.out zm) (fun _ _ _ h=>h) (Bv ⟨by rfl,?_⟩) ?_ ?_;rotate_left
      ·intro w';go_simp
       with_reducible rfl
      rotate_left
      ·simp only [AP,Ap,Aw,Ax,qm1];rfl
      refine qh5 (i:=6) (N:=some 38) (v:=?_) (a':=?_) #[true,true,true,true,true,true,true,false,false,false] rfl rfl (qg6 HT_.out zm) (fun _ _ _ h=>h) (Bv ⟨by rfl,?_⟩) ?_ ?_;rotate_left
      ·intro w';go_simp
       with_reducible rfl
      rotate_left
      ·simp only [AP,Ap,Aw,Ax,qm1];rfl
      refine qh5 (i:=7) (N:=some 39) (v:=?_) (a':=?_) #[true,true,true,true,true,true,true,true,false,false] rfl rfl (qg6 HT_.out zm) (fun _ _ _ h=>h) (Bv ⟨by rfl,?_⟩) ?_ ?_;rotate_left
      ·intro w';go_simp
       with_reducible rfl
      rotate_left
      ·simp only [AP,Ap,Aw,Ax,qm1];rfl
      refine qh5 (i:=8) (N:=some 5) (v:=?_) (a':=?_) #[true,true,true,true,true,true,true,true,true,false] rfl rfl (qg6 HT_.out zm) (fun _ _ _ h=>h) (Bv ⟨by rfl,?_⟩) ?_ ?_;rotate_left
      ·intro w';go_simp
       with_reducible rfl
      rotate_left
      ·simp only [AP,Ap,Aw,Ax,qm1];rfl
      refine qh5 (i:=9) (N:=some 6) (v:=?_) (a':=?_) #[true,true,true,true,true,true,true,true,true,true] rfl rfl (qg6 HT_.out zm) (fun _ _ _ h=>h) (Bv ⟨by rfl,?_⟩) ?_ ?_;rotate_left
      ·intro w';go_simp
       with_reducible rfl
      rotate_left
      ·simp only [AP,Ap,Aw,Ax,qm1];rfl
      refine qa12 (qy20 HT_.out zm) ?_
      try go_wp2
      (try(rw [qw5 w71];generalize hq_:World.drewN w71 _=w71;have n0_:Aside0 (w71.heap[gb314]?=some (.cells #[Aa Ab t317,Aa Ab t318] 24 (0,0))):=⟨by rw [← hq_];exact(za BK314.out)⟩;have n1_:Aside0 (w71.heap[gb315]?=some (.cells #[Aa Ab t319,Aa Ab t320] 24 (0,0))):=⟨by rw [← hq_];exact(za BK315.out)⟩;have n2_:Aside0 (w71.heap[gb316]?=some (.cells #[Aa Ab 0,Aa Ab 0] 24 (0,0))):=⟨by rw [← hq_];exact(za BK316.out)⟩;have n3_:Aside0 (Below w.heap.size w w71):=⟨by rw [← hq_];exact zl⟩;clear BK314 BK315 BK316 HB hq_;have BK314:=n0_;have BK315:=n1_;have BK316:=n2_;have HB:=n3_;clear n0_ n1_ n2_ n3_));replace BK314:=Aside0.mk (qj BK314.out);replace BK315:=Aside0.mk (qj BK315.out);replace BK316:=Aside0.mk (qj BK316.out);replace HB:=Aside0.mk (qh HB.out);refine qq6 (n:=7) (S:=fun w'=>w'.cell? ⟨gb314,0,none⟩=some (Aa Ab t317)∧w'.cell? ⟨gb314,1,none⟩=some (Aa Ab t318)∧w'.cell? ⟨gb315,0,none⟩=some (Aa Ab t319)∧w'.cell? ⟨gb315,1,none⟩=some (Aa Ab t320)) (ds:=[]) #[false,false,false,false,false,false,false] zm rfl rfl ⟨(qm BK314.out 0).trans rfl,(qm BK314.out 1).trans rfl,(qm BK315.out 0).trans rfl,(qm BK315.out 1).trans rfl⟩ (fun hHeld=>?_);generalize w71.drew=w72 at BK314 BK315 BK316 HB hHeld ⊢;refine qz4 (i:=0) (N:=some 40) (v:=?_) (a':=?_) #[true,false,false,false,false,false,false] rfl rfl zm (fun _ _ _ h=>h) (Bv ⟨by rfl,?_⟩) hHeld ?_ ?_;rotate_left
      ·rintro w' ⟨s0,s1,s2,s3⟩;go_simp
       with_reducible rfl
      rotate_left
      ·simp only [AP,Ap,Aw,Ax,qm1];rfl
      refine qz4 (i:=2) (N:=some 42) (v:=?_) (a':=?_) #[true,false,true,false,false,false,false] rfl rfl zm (fun _ _ _ h=>h) (Bv ⟨by rfl,?_⟩) hHeld ?_ ?_;rotate_left
      ·rintro w' ⟨s0,s1,s2,s3⟩;go_simp
       with_reducible rfl
      rotate_left
      ·simp only [AP,Ap,Aw,Ax,qm1];rfl
      refine qw9 (i:=1) (N:=some 41) #[true,true,true,false,false,false,false] rfl rfl zm (by decide) (fun K hK=>?_);refine ql4 Tryz.func166 zm rfl #[.agg #[Aa Ab t317,Aa Ab t318]] (by rfl) rfl rfl zk ?_
      with_reducible refine(dec_sign.calls kj25 t317 t318 t332 _ A65.out).mono ?_
      rintro e w73 ⟨rfl,hb⟩;refine⟨_,rfl,?_⟩;replace BK314:=Aside0.mk (qn (g:=gb314) (o:= .cells #[Aa Ab t317,Aa Ab t318] 24 (0,0)) (za BK314.out) hb);replace BK315:=Aside0.mk (qn (g:=gb315) (o:= .cells #[Aa Ab t319,Aa Ab t320] 24 (0,0)) (za BK315.out) hb);replace BK316:=Aside0.mk (qn (g:=gb316) (o:= .cells #[Aa Ab 0,Aa Ab 0] 24 (0,0)) (za BK316.out) hb);replace HB:=Aside0.mk (qw zl hb);(try clear hb);(try clear hb2);(try clear hk);(try clear hi);refine hK.out _ _ ⟨(qm BK314.out 0).trans rfl,(qm BK314.out 1).trans rfl,(qm BK315.out 0).trans rfl,(qm BK315.out 1).trans rfl⟩ (fun hHeld=>?_);clear hK K;refine qk4 (a':=?_) ?_ ?_;rotate_left
      ·show AP _ (some 41) _=_;simp only [AP,Ap,Aw,Ax,qm1];rfl
      refine qw9 (i:=3) (N:=some 43) #[true,true,true,true,false,false,false] rfl rfl zm (by decide) (fun K hK=>?_);refine ql4 Tryz.func166 zm rfl #[.agg #[Aa Ab t319,Aa Ab t320]] (by rfl) rfl rfl zk ?_
      with_reducible refine(dec_sign.calls kj25 t319 t320 t333 _ A66.out).mono ?_
      rintro e w74 ⟨rfl,hb⟩;refine⟨_,rfl,?_⟩;replace BK314:=Aside0.mk (qn (g:=gb314) (o:= .cells #[Aa Ab t317,Aa Ab t318] 24 (0,0)) (za BK314.out) hb);replace BK315:=Aside0.mk (qn (g:=gb315) (o:= .cells #[Aa Ab t319,Aa Ab t320] 24 (0,0)) (za BK315.out) hb);replace BK316:=Aside0.mk (qn (g:=gb316) (o:= .cells #[Aa Ab 0,Aa Ab 0] 24 (0,0)) (za BK316.out) hb);replace HB:=Aside0.mk (qw zl hb);(try clear hb);(try clear hb2);(try clear hk);(try clear hi);refine hK.out _ _ ⟨(qm BK314.out 0).trans rfl,(qm BK314.out 1).trans rfl,(qm BK315.out 0).trans rfl,(qm BK315.out 1).trans rfl⟩ (fun hHeld=>?_);clear hK K;refine qk4 (a':=?_) ?_ ?_;rotate_left
      ·show AP _ (some 43) _=_;simp only [AP,Ap,Aw,Ax,qm1];rfl
      refine qh5 (i:=4) (N:=some 44) (v:=?_) (a':=?_) #[true,true,true,true,true,false,false] rfl rfl zm (fun _ _ _ h=>h) (Bv ⟨by rfl,?_⟩) ?_ ?_;rotate_left
      ·intro w';go_simp
       with_reducible rfl
      rotate_left
      ·simp only [AP,Ap,Aw,Ax,qm1];rfl
      refine qh5 (i:=5) (N:=some 45) (v:=?_) (a':=?_) #[true,true,true,true,true,true,false] rfl rfl zm (fun _ _ _ h=>h) (Bv ⟨by rfl,?_⟩) ?_ ?_;rotate_left
      ·intro w';go_simp
       with_reducible rfl
      rotate_left
      ·simp only [AP,Ap,Aw,Ax,qm1];rfl
      refine qh5 (i:=6) (N:=some 7) (v:=?_) (a':=?_) #[true,true,true,true,true,true,true] rfl rfl zm (fun _ _ _ h=>h) (Bv ⟨by rfl,?_⟩) ?_ ?_;rotate_left
      ·intro w';go_simp
       with_reducible rfl
      rotate_left
      ·simp only [AP,Ap,Aw,Ax,qm1];rfl
      refine qa12 zm ?_
      try go_wp2_with (first | ((with_reducible refine qi1 (f:=169) rfl ?_);refine qr2 (some 49) rfl rfl Tryz.func169 zm rfl #[Ae (decide ((wrap64 (t332*t333))<0)),Ae true,.int .u64 0] rfl zk ?_;(with_reducible refine(dec_signed.calls kj25 (decide ((wrap64 (t332*t333))<0)) true 0 t334 t335 _ A68.out).mono ?_);rintro e w75 ⟨rfl,hb⟩;refine⟨_,rfl,?_⟩;replace BK314:=Aside0.mk (qn (g:=gb314) (o:= .cells #[Aa Ab t317,Aa Ab t318] 24 (0,0)) (za BK314.out) hb);replace BK315:=Aside0.mk (qn (g:=gb315) (o:= .cells #[Aa Ab t319,Aa Ab t320] 24 (0,0)) (za BK315.out) hb);replace BK316:=Aside0.mk (qn (g:=gb316) (o:= .cells #[Aa Ab 0,Aa Ab 0] 24 (0,0)) (za BK316.out) hb);replace HB:=Aside0.mk (qw zl hb);(try clear hb);(try clear hb2);(try clear hk);(try clear hi);have hnb76:=NB316_314.out;have hnc76:=NB314_316.out;have hnb77:=NB316_315.out;have hnc77:=NB315_316.out;have hcz78_0:w75.cell? ⟨gb316,0,none⟩=some (Aa Ab 0):=(qm BK316.out 0).trans rfl;have hcz78_1:w75.cell? ⟨gb316,1,none⟩=some (Aa Ab 0):=(qm BK316.out 1).trans rfl;have hfz78_0:=qe BK316.out 0;have hfz78_1:=qe BK316.out 1))
      refine bodyPost_ret (results_cell_row rfl _ _ gb316 24 #[Aa Ab t334,Aa Ab t335] (0,0) _ rfl (by(with_reducible repeat(first | refine qi ?_ _ | refine qj ?_ | refine qb ?_ _));refine qk (cs:= #[Aa Ab t334,Aa Ab 0]) ?_ 1 _ rfl;(with_reducible repeat(first | refine qi ?_ _ | refine qj ?_ | refine qb ?_ _));refine qk (cs:= #[Aa Ab 0,Aa Ab 0]) ?_ 0 _ rfl;(with_reducible repeat(first | refine qi ?_ _ | refine qj ?_ | refine qb ?_ _));exact BK316.out) AC rfl zm) rfl ?_;exact⟨zo,zl⟩
     ·rw [if_neg c67]at H;have c67b0:decide (1000000≤t330)=false:=decide_eq_false c67;clear c67;replace H:=AB.mp H;obtain⟨⟨t336,t337⟩,A790,H⟩:=H;replace H:((dec_signed.f kj25 (decide ((wrap64 (t332*t333))<0)) false t336).bind fun bt338=>(some (bt338.1,bt338.2)))=some (r1,r2):=H;have A79:=Aside0.mk A790;clear A790;replace H:=AB.mp H;obtain⟨⟨t338,t339⟩,A800,H⟩:=H;replace H:(some (t338,t339))=some (r1,r2):=H;have A80:=Aside0.mk A800;clear A800;simp only [Ay.injEq,AU]at H;obtain⟨rfl,rfl⟩:=H
      try go_wp2
      replace BK314:=Aside0.mk (qj BK314.out);replace BK315:=Aside0.mk (qj BK315.out);replace BK316:=Aside0.mk (qj BK316.out);replace HB:=Aside0.mk (qh HB.out);refine qq6 (n:=10) (S:=fun w'=>w'.cell? ⟨gb314,0,none⟩=some (Aa Ab t317)∧w'.cell? ⟨gb314,1,none⟩=some (Aa Ab t318)∧w'.cell? ⟨gb315,0,none⟩=some (Aa Ab t319)∧w'.cell? ⟨gb315,1,none⟩=some (Aa Ab t320)) (ds:=[]) #[false,false,false,false,false,false,false,false,false,false] zm rfl rfl ⟨(qm BK314.out 0).trans rfl,(qm BK314.out 1).trans rfl,(qm BK315.out 0).trans rfl,(qm BK315.out 1).trans rfl⟩ (fun hHeld=>?_);refine qg12 dec_Mul.tab6 dec_Mul.bits6 (fun HT_ HW_=>?_);generalize wc.drew=w81 at BK314 BK315 BK316 HB hHeld ⊢;refine qz4 (i:=0) (N:=some 33) (v:=?_) (a':=?_) #[true,false,false,false,false,false,false,false,false,false] rfl rfl (qk8 HT_.out HW_.out zm) (fun _ _ _ h=>h) (Bv ⟨by rfl,?_⟩) hHeld ?_ ?_;rotate_left
      ·rintro w' ⟨s0,s1,s2,s3⟩;go_simp
       with_reducible rfl
      rotate_left
      ·simp only [AP,Ap,Aw,Ax,qm1];rfl
      refine qz4 (i:=2) (N:=some 35) (v:=?_) (a':=?_) #[true,false,true,false,false,false,false,false,false,false] rfl rfl (qk8 HT_.out HW_.out zm) (fun _ _ _ h=>h) (Bv ⟨by rfl,?_⟩) hHeld ?_ ?_;rotate_left
      ·rintro w' ⟨s0,s1,s2,s3⟩;go_simp
       with_reducible rfl
      rotate_left
      ·simp only [AP,Ap,Aw,Ax,qm1];rfl
      refine qw9 (i:=1) (N:=some 34) #[true,true,true,false,false,false,false,false,false,false] rfl rfl (one_of HT_.out zm) (by decide) (fun K hK=>?_);refine ql4 Tryz.func168 zm rfl #[.agg #[Aa Ab t317,Aa Ab t318]] (by rfl) rfl rfl zk ?_
      with_reducible refine(dec_size.calls t317 t318 t328 _ A62.out).mono ?_
      rintro e w82 ⟨rfl,hb⟩;refine⟨_,rfl,?_⟩;replace BK314:=Aside0.mk (qn (g:=gb314) (o:= .cells #[Aa Ab t317,Aa Ab t318] 24 (0,0)) (za BK314.out) hb);replace BK315:=Aside0.mk (qn (g:=gb315) (o:= .cells #[Aa Ab t319,Aa Ab t320] 24 (0,0)) (za BK315.out) hb);replace BK316:=Aside0.mk (qn (g:=gb316) (o:= .cells #[Aa Ab 0,Aa Ab 0] 24 (0,0)) (za BK316.out) hb);replace HB:=Aside0.mk (qw zl hb);(try clear hb);(try clear hb2);(try clear hk);(try clear hi);refine hK.out _ _ ⟨(qm BK314.out 0).trans rfl,(qm BK314.out 1).trans rfl,(qm BK315.out 0).trans rfl,(qm BK315.out 1).trans rfl⟩ (fun hHeld=>?_);clear hK K;refine qk4 (a':=?_) ?_ ?_;rotate_left
      ·show AP _ (some 34) _=_;simp only [AP,Ap,Aw,Ax,qm1];rfl
      refine qw9 (i:=3) (N:=some 36) #[true,true,true,true,false,false,false,false,false,false] rfl rfl (one_of HT_.out zm) (by decide) (fun K hK=>?_);refine ql4 Tryz.func168 zm rfl #[.agg #[Aa Ab t319,Aa Ab t320]] (by rfl) rfl rfl zk ?_
      with_reducible refine(dec_size.calls t319 t320 t329 _ A63.out).mono ?_
      rintro e w83 ⟨rfl,hb⟩;refine⟨_,rfl,?_⟩;replace BK314:=Aside0.mk (qn (g:=gb314) (o:= .cells #[Aa Ab t317,Aa Ab t318] 24 (0,0)) (za BK314.out) hb);replace BK315:=Aside0.mk (qn (g:=gb315) (o:= .cells #[Aa Ab t319,Aa Ab t320] 24 (0,0)) (za BK315.out) hb);replace BK316:=Aside0.mk (qn (g:=gb316) (o:= .cells #[Aa Ab 0,Aa Ab 0] 24 (0,0)) (za BK316.out) hb);replace HB:=Aside0.mk (qw zl hb);(try clear hb);(try clear hb2);(try clear hk);(try clear hi);refine hK.out _ _ ⟨(qm BK314.out 0).trans rfl,(qm BK314.out 1).trans rfl,(qm BK315.out 0).trans rfl,(qm BK315.out 1).trans rfl⟩ (fun hHeld=>?_);clear hK K;refine qk4 (a':=?_) ?_ ?_;rotate_left
      ·show AP _ (some 36) _=_;simp only [AP,Ap,Aw,Ax,qm1];rfl
      refine qw9 (i:=4) (N:=some 37) #[true,true,true,true,true,false,false,false,false,false] rfl rfl (one_of HT_.out zm) (by decide) (fun K hK=>?_);refine ql4 Tryz.func167 zm rfl #[.int .u64 t328,.int .u64 t329] (by rfl) rfl rfl zk ?_
      with_reducible refine(bits_Mul64.calls t328 t329 t330 t331 _ A64.out).mono ?_
      rintro e w' ⟨rfl,⟨nd,rfl⟩⟩;refine⟨_,rfl,?_⟩;refine hK.out _ _ ⟨(qm BK314.out 0).trans rfl,(qm BK314.out 1).trans rfl,(qm BK315.out 0).trans rfl,(qm BK315.out 1).trans rfl⟩ (fun hHeld=>?_);clear hK K;refine qk4 (a':=?_) ?_ ?_;rotate_left
      ·show AP _ (some 37) _=_;simp only [AP,Ap,Aw,Ax,qm1];rfl
      refine qh5 (i:=5) (N:=some 32) (v:=?_) (a':=?_) #[true,true,true,true,true,true,false,false,false,false] rfl rfl (qg6 HT_.out zm) (fun _ _ _ h=>h) (Bv ⟨by rfl,?_⟩) ?_ ?_;rotate_left
      ·intro w';go_simp
       with_reducible rfl
      rotate_left
      ·simp only [AP,Ap,Aw,Ax,qm1];rfl
      refine qh5 (i:=6) (N:=some 38) (v:=?_) (a':=?_) #[true,true,true,true,true,true,true,false,false,false] rfl rfl (qg6 HT_.out zm) (fun _ _ _ h=>h) (Bv ⟨by rfl,?_⟩) ?_ ?_;rotate_left
      ·intro w';go_simp
       with_reducible rfl
      rotate_left
      ·simp only [AP,Ap,Aw,Ax,qm1];rfl
      refine qh5 (i:=7) (N:=some 39) (v:=?_) (a':=?_) #[true,true,true,true,true,true,true,true,false,false] rfl rfl (qg6 HT_.out zm) (fun _ _ _ h=>h) (Bv ⟨by rfl,?_⟩) ?_ ?_;rotate_left
      ·intro w';go_simp
       with_reducible rfl
      rotate_left
      ·simp only [AP,Ap,Aw,Ax,qm1];rfl
      refine qh5 (i:=8) (N:=some 5) (v:=?_) (a':=?_) #[true,true,true,true,true,true,true,true,true,false] rfl rfl (qg6 HT_.out zm) (fun _ _ _ h=>h) (Bv ⟨by rfl,?_⟩) ?_ ?_;rotate_left
      ·intro w';go_simp
       with_reducible rfl
      rotate_left
      ·simp only [AP,Ap,Aw,Ax,qm1];rfl
      refine qh5 (i:=9) (N:=some 6) (v:=?_) (a':=?_) #[true,true,true,true,true,true,true,true,true,true] rfl rfl (qg6 HT_.out zm) (fun _ _ _ h=>h) (Bv ⟨by rfl,?_⟩) ?_ ?_;rotate_left
      ·intro w';go_simp
       with_reducible rfl
      rotate_left
      ·simp only [AP,Ap,Aw,Ax,qm1];rfl
      refine qa12 (qy20 HT_.out zm) ?_
      try go_wp2
      (try(rw [qw5 w83];generalize hq_:World.drewN w83 _=w83;have n0_:Aside0 (w83.heap[gb314]?=some (.cells #[Aa Ab t317,Aa Ab t318] 24 (0,0))):=⟨by rw [← hq_];exact(za BK314.out)⟩;have n1_:Aside0 (w83.heap[gb315]?=some (.cells #[Aa Ab t319,Aa Ab t320] 24 (0,0))):=⟨by rw [← hq_];exact(za BK315.out)⟩;have n2_:Aside0 (w83.heap[gb316]?=some (.cells #[Aa Ab 0,Aa Ab 0] 24 (0,0))):=⟨by rw [← hq_];exact(za BK316.out)⟩;have n3_:Aside0 (Below w.heap.size w w83):=⟨by rw [← hq_];exact zl⟩;clear BK314 BK315 BK316 HB hq_;have BK314:=n0_;have BK315:=n1_;have BK316:=n2_;have HB:=n3_;clear n0_ n1_ n2_ n3_));replace BK314:=Aside0.mk (qj BK314.out);replace BK315:=Aside0.mk (qj BK315.out);replace BK316:=Aside0.mk (qj BK316.out);replace HB:=Aside0.mk (qh HB.out);refine qq6 (n:=7) (S:=fun w'=>w'.cell? ⟨gb314,0,none⟩=some (Aa Ab t317)∧w'.cell? ⟨gb314,1,none⟩=some (Aa Ab t318)∧w'.cell? ⟨gb315,0,none⟩=some (Aa Ab t319)∧w'.cell? ⟨gb315,1,none⟩=some (Aa Ab t320)) (ds:=[]) #[false,false,false,false,false,false,false] zm rfl rfl ⟨(qm BK314.out 0).trans rfl,(qm BK314.out 1).trans rfl,(qm BK315.out 0).trans rfl,(qm BK315.out 1).trans rfl⟩ (fun hHeld=>?_);generalize w83.drew=w84 at BK314 BK315 BK316 HB hHeld ⊢;refine qz4 (i:=0) (N:=some 40) (v:=?_) (a':=?_) #[true,false,false,false,false,false,false] rfl rfl zm (fun _ _ _ h=>h) (Bv ⟨by rfl,?_⟩) hHeld ?_ ?_;rotate_left
      ·rintro w' ⟨s0,s1,s2,s3⟩;go_simp
       with_reducible rfl
      rotate_left
      ·simp only [AP,Ap,Aw,Ax,qm1];rfl
      refine qz4 (i:=2) (N:=some 42) (v:=?_) (a':=?_) #[true,false,true,false,false,false,false] rfl rfl zm (fun _ _ _ h=>h) (Bv ⟨by rfl,?_⟩) hHeld ?_ ?_;rotate_left
      ·rintro w' ⟨s0,s1,s2,s3⟩;go_simp
       with_reducible rfl
      rotate_left
      ·simp only [AP,Ap,Aw,Ax,qm1];rfl
      refine qw9 (i:=1) (N:=some 41) #[true,true,true,false,false,false,false] rfl rfl zm (by decide) (fun K hK=>?_);refine ql4 Tryz.func166 zm rfl #[.agg #[Aa Ab t317,Aa Ab t318]] (by rfl) rfl rfl zk ?_
      with_reducible refine(dec_sign.calls kj25 t317 t318 t332 _ A65.out).mono ?_
      rintro e w85 ⟨rfl,hb⟩;refine⟨_,rfl,?_⟩;replace BK314:=Aside0.mk (qn (g:=gb314) (o:= .cells #[Aa Ab t317,Aa Ab t318] 24 (0,0)) (za BK314.out) hb);replace BK315:=Aside0.mk (qn (g:=gb315) (o:= .cells #[Aa Ab t319,Aa Ab t320] 24 (0,0)) (za BK315.out) hb);replace BK316:=Aside0.mk (qn (g:=gb316) (o:= .cells #[Aa Ab 0,Aa Ab 0] 24 (0,0)) (za BK316.out) hb);replace HB:=Aside0.mk (qw zl hb);(try clear hb);(try clear hb2);(try clear hk);(try clear hi);refine hK.out _ _ ⟨(qm BK314.out 0).trans rfl,(qm BK314.out 1).trans rfl,(qm BK315.out 0).trans rfl,(qm BK315.out 1).trans rfl⟩ (fun hHeld=>?_);clear hK K;refine qk4 (a':=?_) ?_ ?_;rotate_left
      ·show AP _ (some 41) _=_;simp only [AP,Ap,Aw,Ax,qm1];rfl
      refine qw9 (i:=3) (N:=some 43) #[true,true,true,true,false,false,false] rfl rfl zm (by decide) (fun K hK=>?_);refine ql4 Tryz.func166 zm rfl #[.agg #[Aa Ab t319,Aa Ab t320]] (by rfl) rfl rfl zk ?_
      with_reducible refine(dec_sign.calls kj25 t319 t320 t333 _ A66.out).mono ?_
      rintro e w86 ⟨rfl,hb⟩;refine⟨_,rfl,?_⟩;replace BK314:=Aside0.mk (qn (g:=gb314) (o:= .cells #[Aa Ab t317,Aa Ab t318] 24 (0,0)) (za BK314.out) hb);replace BK315:=Aside0.mk (qn (g:=gb315) (o:= .cells #[Aa Ab t319,Aa Ab t320] 24 (0,0)) (za BK315.out) hb);replace BK316:=Aside0.mk (qn (g:=gb316) (o:= .cells #[Aa Ab 0,Aa Ab 0] 24 (0,0)) (za BK316.out) hb);replace HB:=Aside0.mk (qw zl hb);(try clear hb);(try clear hb2);(try clear hk);(try clear hi);refine hK.out _ _ ⟨(qm BK314.out 0).trans rfl,(qm BK314.out 1).trans rfl,(qm BK315.out 0).trans rfl,(qm BK315.out 1).trans rfl⟩ (fun hHeld=>?_);clear hK K;refine qk4 (a':=?_) ?_ ?_;rotate_left
      ·show AP _ (some 43) _=_;simp only [AP,Ap,Aw,Ax,qm1];rfl
      refine qh5 (i:=4) (N:=some 44) (v:=?_) (a':=?_) #[true,true,true,true,true,false,false] rfl rfl zm (fun _ _ _ h=>h) (Bv ⟨by rfl,?_⟩) ?_ ?_;rotate_left
      ·intro w';go_simp
       with_reducible rfl
      rotate_left
      ·simp only [AP,Ap,Aw,Ax,qm1];rfl
      refine qh5 (i:=5) (N:=some 45) (v:=?_) (a':=?_) #[true,true,true,true,true,true,false] rfl rfl zm (fun _ _ _ h=>h) (Bv ⟨by rfl,?_⟩) ?_ ?_;rotate_left
      ·intro w';go_simp
       with_reducible rfl
      rotate_left
      ·simp only [AP,Ap,Aw,Ax,qm1];rfl
      refine qh5 (i:=6) (N:=some 7) (v:=?_) (a':=?_) #[true,true,true,true,true,true,true] rfl rfl zm (fun _ _ _ h=>h) (Bv ⟨by rfl,?_⟩) ?_ ?_;rotate_left
      ·intro w';go_simp
       with_reducible rfl
      rotate_left
      ·simp only [AP,Ap,Aw,Ax,qm1];rfl
      refine qa12 zm ?_
      try go_wp2_with (first | ((with_reducible refine qi1 (f:=170) rfl ?_);refine qr2 (some 53) rfl rfl Tryz.func170 zm rfl #[.int .u64 t330,.int .u64 t331,.int .u64 1000000] rfl zk ?_;(with_reducible refine(bits_Div64.calls kj25 t330 t331 1000000 t336 t337 _ A79.out).mono ?_);rintro e w' ⟨rfl,⟨nd,rfl⟩⟩;refine⟨_,rfl,?_⟩;(try(rw [qw5 w86];generalize hq_:World.drewN w86 _=w86;have n0_:Aside0 (w86.heap[gb314]?=some (.cells #[Aa Ab t317,Aa Ab t318] 24 (0,0))):=⟨by rw [← hq_];exact(za BK314.out)⟩;have n1_:Aside0 (w86.heap[gb315]?=some (.cells #[Aa Ab t319,Aa Ab t320] 24 (0,0))):=⟨by rw [← hq_];exact(za BK315.out)⟩;have n2_:Aside0 (w86.heap[gb316]?=some (.cells #[Aa Ab 0,Aa Ab 0] 24 (0,0))):=⟨by rw [← hq_];exact(za BK316.out)⟩;have n3_:Aside0 (Below w.heap.size w w86):=⟨by rw [← hq_];exact zl⟩;clear BK314 BK315 BK316 HB hq_;have BK314:=n0_;have BK315:=n1_;have BK316:=n2_;have HB:=n3_;clear n0_ n1_ n2_ n3_))) | ((with_reducible refine qi1 (f:=169) rfl ?_);refine qr2 (some 58) rfl rfl Tryz.func169 zm rfl #[Ae (decide ((wrap64 (t332*t333))<0)),Ae false,.int .u64 t336] rfl zk ?_;(with_reducible refine(dec_signed.calls kj25 (decide ((wrap64 (t332*t333))<0)) false t336 t338 t339 _ A80.out).mono ?_);rintro e w87 ⟨rfl,hb⟩;refine⟨_,rfl,?_⟩;replace BK314:=Aside0.mk (qn (g:=gb314) (o:= .cells #[Aa Ab t317,Aa Ab t318] 24 (0,0)) (za BK314.out) hb);replace BK315:=Aside0.mk (qn (g:=gb315) (o:= .cells #[Aa Ab t319,Aa Ab t320] 24 (0,0)) (za BK315.out) hb);replace BK316:=Aside0.mk (qn (g:=gb316) (o:= .cells #[Aa Ab 0,Aa Ab 0] 24 (0,0)) (za BK316.out) hb);replace HB:=Aside0.mk (qw zl hb);(try clear hb);(try clear hb2);(try clear hk);(try clear hi);have hnb88:=NB316_314.out;have hnc88:=NB314_316.out;have hnb89:=NB316_315.out;have hnc89:=NB315_316.out;have hcz90_0:w87.cell? ⟨gb316,0,none⟩=some (Aa Ab 0):=(qm BK316.out 0).trans rfl;have hcz90_1:w87.cell? ⟨gb316,1,none⟩=some (Aa Ab 0):=(qm BK316.out 1).trans rfl;have hfz90_0:=qe BK316.out 0;have hfz90_1:=qe BK316.out 1))
      refine bodyPost_ret (results_cell_row rfl _ _ gb316 24 #[Aa Ab t338,Aa Ab t339] (0,0) _ rfl (by(with_reducible repeat(first | refine qi ?_ _ | refine qj ?_ | refine qb ?_ _));refine qk (cs:= #[Aa Ab t338,Aa Ab 0]) ?_ 1 _ rfl;(with_reducible repeat(first | refine qi ?_ _ | refine qj ?_ | refine qb ?_ _));refine qk (cs:= #[Aa Ab 0,Aa Ab 0]) ?_ 0 _ rfl;(with_reducible repeat(first | refine qi ?_ _ | refine qj ?_ | refine qb ?_ _));exact BK316.out) AC rfl zm) rfl ?_;exact⟨zo,zl⟩
end Go.Proofs.YtocdckniokhbbaaGreatDoor.PF
