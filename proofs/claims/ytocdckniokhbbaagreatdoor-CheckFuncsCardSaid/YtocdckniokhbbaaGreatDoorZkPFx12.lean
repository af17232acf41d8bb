import Derived.Test.YtocdckniokhbbaaGreatDoorZkZz
import Derived.Test.YtocdckniokhbbaaGreatDoorProg
import Derived.Below
import Derived.Deep.Draws
import Derived.Deep.AppendLies
import Derived.Maps.AppendAt
import Derived.OwnWalk
import Derived.Laws.BytesArg
import Derived.Laws.MakeOwn
import Derived.Laws.OwnMore
import Derived.Deep.OwnRows
import Derived.Tactics
import Derived.Lib.ConvBytes
import Derived.Laws.Slices
import Derived.WalkKit
import Derived.KernelRfl
import Derived.RowKit3
import Derived.Deep.LoopGhost
import Derived.Deep.QuietTactic
import Derived.BigQuiet
import Derived.WideLaws
import Derived.Deep.DeepCutAuto
import Derived.Deep.CutBlock
import Derived.Deep.RegionHeld3
import Derived.Laws.Rows
import Derived.Lib.AppendStr
import Derived.ArgAppend
import Derived.Laws.IdiomCopy
import Derived.OrdersHeld
import Derived.Laws.BitsLemmas
import Derived.RowKit
import Derived.Test.YtocdckniokhbbaaGreatDoorZkPFx1
import Derived.RegionTactic
import Derived.ChangeAlike
import Derived.BigRegion
import Derived.Great.BuildSlice
import Derived.Deep.WholeRow
import Derived.Test.YtocdckniokhbbaaGreatDoorZkWWords
import Derived.Test.YtocdckniokhbbaaGreatDoorZkWLast
import Derived.Laws.StructEq
import Derived.Test.YtocdckniokhbbaaGreatDoorZkWMore
import Derived.Test.YtocdckniokhbbaaGreatDoorZkPFx10
import Derived.Test.YtocdckniokhbbaaGreatDoorZkPFx11
set_option linter.unusedVariables false
set_option linter.unusedSimpArgs false
open Go.IntKind renaming u64→Am,i64→Ab
open Go.Value renaming int→Aa,bool→Ae
open Go.Proofs.Tryz renaming prog→Aj,underlying24→AC
open Go.RowKit.Below renaming refl→Ao
open Option renaming bind_eq_some_iff→AB,some→Ay
open Prod.mk renaming injEq→AU
open Nat renaming ne_of_gt→Bc,ne_of_lt→Bg,le_refl→Ag
open Or renaming inl→Bv
open List renaming setIfInBounds_toArray→Ap,set_cons_zero→Aw,set_cons_succ→Ax
open Go.Act renaming put→AP
open Bool renaming eq_false_iff→AR
set_option maxHeartbeats 8000000
set_option maxRecDepth 100000
namespace Go.Proofs.YtocdckniokhbbaaGreatDoor.PF
open Go.RowKit YtocdckniokhbbaaGreatDoorW.PrintWords YtocdckniokhbbaaGreatDoorW.PrintLast YtocdckniokhbbaaGreatDoorW.PrintMore
attribute [local go_sem] qw3 qt4
def dec_Add.j0:Nat→Int→Bool→Int→Int→Int→Int→Option (Int × Int)
 | 0,_,_,_,_,_,_=>none
 | k+1,x9,x35,x292000,x292001,x293000,x293001=>if x35=true then((dec_over.f).bind fun bt304=>(some (bt304.1,bt304.2)))else(if x292001<0 then(if x293001<0 then(if x9≥0 then((dec_under.f).bind fun bt306=>(some (bt306.1,bt306.2)))else(if x9=(-9223372036854775808)then((dec_under.f).bind fun bt308=>(some (bt308.1,bt308.2)))else(some (0,x9))))else(some (0,x9)))else(some (0,x9)))
def dec_Add.f (k:Nat) (a0_0:Int) (a0_1:Int) (a1_0:Int) (a1_1:Int):Option (Int × Int):=(dec_right.f a0_0 a0_1).bind fun bt294=>((dec_right.f a1_0 a1_1).bind fun bt296=>((dec_tagged.f bt294.1 bt294.2 bt296.1 bt296.2).bind fun bt298=>(if bt298.2.2=true then(some (bt298.1,bt298.2.1))else((bits_Add64.f (Am.wrap (bt294.2)) (Am.wrap (bt296.2)) 0).bind fun bt302=>(if bt294.2>0 then(if bt296.2>0 then(dec_Add.j0 k (wrap64 (bt302.1)) (decide ((wrap64 (bt302.1))≤0)) bt294.1 bt294.2 bt296.1 bt296.2)else(dec_Add.j0 k (wrap64 (bt302.1)) false bt294.1 bt294.2 bt296.1 bt296.2))else(dec_Add.j0 k (wrap64 (bt302.1)) false bt294.1 bt294.2 bt296.1 bt296.2))))))
theorem dec_Add.calls (k:Nat) (a0_0:Int) (a0_1:Int) (a1_0:Int) (a1_1:Int) (r1:Int) (r2:Int) (w:World) (h:dec_Add.f k a0_0 a0_1 a1_0 a1_1=some (r1,r2)) :
  Calls Aj 127 #[.agg #[Aa Ab a0_0,Aa Ab a0_1],.agg #[Aa Ab a1_0,Aa Ab a1_1]] w fun e w'=>e= .returned (.agg #[Aa Ab r1,Aa Ab r2])∧Below w.heap.size w w':=by
 have hu24:=AC;have HB:=Aside0.mk (Ao w.heap.size w);have H:((dec_right.f a0_0 a0_1).bind fun bt294=>((dec_right.f a1_0 a1_1).bind fun bt296=>((dec_tagged.f bt294.1 bt294.2 bt296.1 bt296.2).bind fun bt298=>(if bt298.2.2=true then(some (bt298.1,bt298.2.1))else((bits_Add64.f (Am.wrap (bt294.2)) (Am.wrap (bt296.2)) 0).bind fun bt302=>(if bt294.2>0 then(if bt296.2>0 then(dec_Add.j0 k (wrap64 (bt302.1)) (decide ((wrap64 (bt302.1))≤0)) bt294.1 bt294.2 bt296.1 bt296.2)else(dec_Add.j0 k (wrap64 (bt302.1)) false bt294.1 bt294.2 bt296.1 bt296.2))else(dec_Add.j0 k (wrap64 (bt302.1)) false bt294.1 bt294.2 bt296.1 bt296.2)))))))=some (r1,r2):=h;clear h;replace H:=AB.mp H;obtain⟨⟨t294,t295⟩,A30,H⟩:=H;replace H:((dec_right.f a1_0 a1_1).bind fun bt296=>((dec_tagged.f t294 t295 bt296.1 bt296.2).bind fun bt298=>(if bt298.2.2=true then(some (bt298.1,bt298.2.1))else((bits_Add64.f (Am.wrap (t295)) (Am.wrap (bt296.2)) 0).bind fun bt302=>(if t295>0 then(if bt296.2>0 then(dec_Add.j0 k (wrap64 (bt302.1)) (decide ((wrap64 (bt302.1))≤0)) t294 t295 bt296.1 bt296.2)else(dec_Add.j0 k (wrap64 (bt302.1)) false t294 t295 bt296.1 bt296.2))else(dec_Add.j0 k (wrap64 (bt302.1)) false t294 t295 bt296.1 bt296.2))))))=some (r1,r2):=H;have A3:=Aside0.mk A30;clear A30;replace H:=AB.mp H;obtain⟨⟨t296,t297⟩,A40,H⟩:=H;replace H:((dec_tagged.f t294 t295 t296 t297).bind fun bt298=>(if bt298.2.2=true then(some (bt298.1,bt298.2.1))else((bits_Add64.f (Am.wrap (t295)) (Am.wrap (t297)) 0).bind fun bt302=>(if t295>0 then(if t297>0 then(dec_Add.j0 k (wrap64 (bt302.1)) (decide ((wrap64 (bt302.1))≤0)) t294 t295 t296 t297)else(dec_Add.j0 k (wrap64 (bt302.1)) false t294 t295 t296 t297))else(dec_Add.j0 k (wrap64 (bt302.1)) false t294 t295 t296 t297)))))=some (r1,r2):=H;have A4:=Aside0.mk A40;clear A40;replace H:=AB.mp H;obtain⟨⟨t298,t299,t300⟩,A50,H⟩:=H;replace H:(if t300=true then(some (t298,t299))else((bits_Add64.f (Am.wrap (t295)) (Am.wrap (t297)) 0).bind fun bt302=>(if t295>0 then(if t297>0 then(dec_Add.j0 k (wrap64 (bt302.1)) (decide ((wrap64 (bt302.1))≤0)) t294 t295 t296 t297)else(dec_Add.j0 k (wrap64 (bt302.1)) false t294 t295 t296 t297))else(dec_Add.j0 k (wrap64 (bt302.1)) false t294 t295 t296 t297))))=some (r1,r2):=H;have A5:=Aside0.mk A50;clear A50;by_cases c6:t300=true
 ·subst c6;have H1:(some (t298,t299))=some (r1,r2):=by rw [if_pos rfl]at H;exact H
  clear H;have H:=H1;clear H1;simp only [Ay.injEq,AU]at H;obtain⟨rfl,rfl⟩:=H;go_enter Tryz.func127,Tryz.ntmps127
  try go_wp2_with (first | ((with_reducible refine qc1 (N:=2) rfl ?_);refine qa1 ?hg (N:=2) ?hd (cs:= #[Aa Ab a0_0,Aa Ab a0_1]) (t:=24) ?hr ?_;(case hd=>rfl);(case hg=>rfl);(case hr=>first | (go_simp;done) | (go_simp;rfl));intro gb291 hg w7 hbox hb;have BK291:=Aside0.mk (hbox);have GW291:=Aside0.mk ((by rw [hg];exact(qu zj):w.heap.size≤gb291));have GE291:=Aside0.mk ((by rw [hg];exact(qu zj):w.heap.size≤gb291));replace HB:=Aside0.mk (qw zj hb);clear hb hbox hg) | ((with_reducible refine qc1 (N:=3) rfl ?_);refine qa1 ?hg (N:=3) ?hd (cs:= #[Aa Ab a1_0,Aa Ab a1_1]) (t:=24) ?hr ?_;(case hd=>rfl);(case hg=>rfl);(case hr=>first | (go_simp;done) | (go_simp;rfl));intro gb292 hg w8 hbox hb;have BK292:=Aside0.mk (hbox);have GW292:=Aside0.mk ((by rw [hg];exact(qu zah):w.heap.size≤gb292));have GE292:=Aside0.mk ((by rw [hg];exact(qu zah):w.heap.size≤gb292));replace HB:=Aside0.mk (qw zah hb);have NB291_292:=Aside0.mk ((by rw [hg];exact Bg (ql1 (g:=gb291) (o:= .cells #[Aa Ab a0_0,Aa Ab a0_1] 24 (0,0)) (za BK291.out)):gb291≠gb292));have NB292_291:=Aside0.mk ((by rw [hg];exact Bc (ql1 (g:=gb291) (o:= .cells #[Aa Ab a0_0,Aa Ab a0_1] 24 (0,0)) (za BK291.out)):gb292≠gb291));replace BK291:=Aside0.mk (qn (g:=gb291) (o:= .cells #[Aa Ab a0_0,Aa Ab a0_1] 24 (0,0)) (za BK291.out) hb);clear hb hbox hg) | ((with_reducible refine qc1 (N:=4) rfl ?_);refine qa1 ?hg (N:=4) ?hd (cs:= #[Aa Ab 0,Aa Ab 0]) (t:=24) ?hr ?_;(case hd=>rfl);(case hg=>rfl);(case hr=>first | (go_simp;done) | (go_simp;rfl));intro gb293 hg w9 hbox hb;have BK293:=Aside0.mk (hbox);have GW293:=Aside0.mk ((by rw [hg];exact(qu z8):w.heap.size≤gb293));have GE293:=Aside0.mk ((by rw [hg];exact(qu z8):w.heap.size≤gb293));replace HB:=Aside0.mk (qw z8 hb);have NB291_293:=Aside0.mk ((by rw [hg];exact Bg (ql1 (g:=gb291) (o:= .cells #[Aa Ab a0_0,Aa Ab a0_1] 24 (0,0)) (za BK291.out)):gb291≠gb293));have NB293_291:=Aside0.mk ((by rw [hg];exact Bc (ql1 (g:=gb291) (o:= .cells #[Aa Ab a0_0,Aa Ab a0_1] 24 (0,0)) (za BK291.out)):gb293≠gb291));replace BK291:=Aside0.mk (qn (g:=gb291) (o:= .cells #[Aa Ab a0_0,Aa Ab a0_1] 24 (0,0)) (za BK291.out) hb);have NB292_293:=Aside0.mk ((by rw [hg];exact Bg (ql1 (g:=gb292) (o:= .cells #[Aa Ab a1_0,Aa Ab a1_1] 24 (0,0)) (za BK292.out)):gb292≠gb293));have NB293_292:=Aside0.mk ((by rw [hg];exact Bc (ql1 (g:=gb292) (o:= .cells #[Aa Ab a1_0,Aa Ab a1_1] 24 (0,0)) (za BK292.out)):gb293≠gb292));replace BK292:=Aside0.mk (qn (g:=gb292) (o:= .cells #[Aa Ab a1_0,Aa Ab a1_1] 24 (0,0)) (za BK292.out) hb);clear hb hbox hg))
  replace BK291:=Aside0.mk (qj BK291.out);replace BK292:=Aside0.mk (qj BK292.out);replace BK293:=Aside0.mk (qj BK293.out);replace HB:=Aside0.mk (qh HB.out);refine qq6 (n:=6) (S:=fun w'=>w'.cell? ⟨gb291,0,none⟩=some (Aa Ab a0_0)∧w'.cell? ⟨gb291,1,none⟩=some (Aa Ab a0_1)∧w'.cell? ⟨gb292,0,none⟩=some (Aa Ab a1_0)∧w'.cell? ⟨gb292,1,none⟩=some (Aa Ab a1_1)) (ds:=[4,5]) #[false,false,false,false,false,false] zm rfl rfl ⟨(qm BK291.out 0).trans rfl,(qm BK291.out 1).trans rfl,(qm BK292.out 0).trans rfl,(qm BK292.out 1).trans rfl⟩ (fun hHeld=>?_);generalize w9.drew=w10 at BK291 BK292 BK293 HB hHeld ⊢;refine qz4 (i:=0) (N:=some 10) (v:=?_) (a':=?_) #[true,false,false,false,false,false] rfl rfl zm (fun _ _ _ h=>h) (Bv ⟨by rfl,?_⟩) hHeld ?_ ?_;rotate_left
  ·rintro w' ⟨s0,s1,s2,s3⟩;go_simp
   with_reducible rfl
  rotate_left
  ·simp only [AP,Ap,Aw,Ax,qm1];rfl
  refine qz4 (i:=2) (N:=some 12) (v:=?_) (a':=?_) #[true,false,true,false,false,false] rfl rfl zm (fun _ _ _ h=>h) (Bv ⟨by rfl,?_⟩) hHeld ?_ ?_;rotate_left
  ·rintro w' ⟨s0,s1,s2,s3⟩;go_simp
   with_reducible rfl
  rotate_left
  ·simp only [AP,Ap,Aw,Ax,qm1];rfl
  refine qw9 (i:=1) (N:=some 11) #[true,true,true,false,false,false] rfl rfl zm (by decide) (fun K hK=>?_);refine ql4 Tryz.func159 zm rfl #[.agg #[Aa Ab a0_0,Aa Ab a0_1]] (by rfl) rfl rfl zk ?_
  with_reducible refine(dec_right.calls a0_0 a0_1 t294 t295 _ A3.out).mono ?_
  rintro e w11 ⟨rfl,hb⟩;refine⟨_,rfl,?_⟩;replace BK291:=Aside0.mk (qn (g:=gb291) (o:= .cells #[Aa Ab a0_0,Aa Ab a0_1] 24 (0,0)) (za BK291.out) hb);replace BK292:=Aside0.mk (qn (g:=gb292) (o:= .cells #[Aa Ab a1_0,Aa Ab a1_1] 24 (0,0)) (za BK292.out) hb);replace BK293:=Aside0.mk (qn (g:=gb293) (o:= .cells #[Aa Ab 0,Aa Ab 0] 24 (0,0)) (za BK293.out) hb);replace HB:=Aside0.mk (qw zu hb);(try clear hb);(try clear hb2);(try clear hk);(try clear hi);refine hK.out _ _ ⟨(qm BK291.out 0).trans rfl,(qm BK291.out 1).trans rfl,(qm BK292.out 0).trans rfl,(qm BK292.out 1).trans rfl⟩ (fun hHeld=>?_);clear hK K;refine qk4 (a':=?_) ?_ ?_;rotate_left
  ·show AP _ (some 11) _=_;simp only [AP,Ap,Aw,Ax,qm1];rfl
  refine qw9 (i:=3) (N:=some 13) #[true,true,true,true,false,false] rfl rfl zm (by decide) (fun K hK=>?_);refine ql4 Tryz.func159 zm rfl #[.agg #[Aa Ab a1_0,Aa Ab a1_1]] (by rfl) rfl rfl zk ?_
  with_reducible refine(dec_right.calls a1_0 a1_1 t296 t297 _ A4.out).mono ?_
  rintro e w12 ⟨rfl,hb⟩;refine⟨_,rfl,?_⟩;replace BK291:=Aside0.mk (qn (g:=gb291) (o:= .cells #[Aa Ab a0_0,Aa Ab a0_1] 24 (0,0)) (za BK291.out) hb);replace BK292:=Aside0.mk (qn (g:=gb292) (o:= .cells #[Aa Ab a1_0,Aa Ab a1_1] 24 (0,0)) (za BK292.out) hb);replace BK293:=Aside0.mk (qn (g:=gb293) (o:= .cells #[Aa Ab 0,Aa Ab 0] 24 (0,0)) (za BK293.out) hb);replace HB:=Aside0.mk (qw zu hb);(try clear hb);(try clear hb2);(try clear hk);(try clear hi);refine hK.out _ _ ⟨(qm BK291.out 0).trans rfl,(qm BK291.out 1).trans rfl,(qm BK292.out 0).trans rfl,(qm BK292.out 1).trans rfl⟩ (fun hHeld=>?_);clear hK K;refine qk4 (a':=?_) ?_ ?_;rotate_left
  ·show AP _ (some 13) _=_;simp only [AP,Ap,Aw,Ax,qm1];rfl
  refine qh13 (i:=4) (N:=none) #[true,true,true,true,true,false] rfl rfl zm (by decide) (fun K hK=>?_);have hs13:w12.cell? ⟨gb291,0,none⟩=some (Aa Ab a0_0):=(qm BK291.out 0).trans rfl;have hfs13:=qe BK291.out 0;have hns13_1:=NB292_291.out;have hns13_2:=NB293_291.out;have hms13_1:=NB291_292.out;have hms13_2:=NB291_293.out;have hs14:w12.cell? ⟨gb291,1,none⟩=some (Aa Ab a0_1):=(qm BK291.out 1).trans rfl;have hfs14:=qe BK291.out 1;have hns14_1:=NB292_291.out;have hns14_2:=NB293_291.out;have hms14_1:=NB291_292.out;have hms14_2:=NB291_293.out;refine qn11 (w1:=?_) (by rfl) rfl ?_ ?_;rotate_left
  ·go_simp;rfl
  refine hK.out _ _ ?_;clear hK K;refine qh13 (i:=5) (N:=none) #[true,true,true,true,true,true] rfl rfl zm (by decide) (fun K hK=>?_);have hs15:w12.cell? ⟨gb292,0,none⟩=some (Aa Ab a1_0):=(qm BK292.out 0).trans rfl;have hfs15:=qe BK292.out 0;have hns15_0:=NB291_292.out;have hns15_2:=NB293_292.out;have hms15_0:=NB292_291.out;have hms15_2:=NB292_293.out;have hs16:w12.cell? ⟨gb292,1,none⟩=some (Aa Ab a1_1):=(qm BK292.out 1).trans rfl;have hfs16:=qe BK292.out 1;have hns16_0:=NB291_292.out;have hns16_2:=NB293_292.out;have hms16_0:=NB292_291.out;have hms16_2:=NB292_293.out;refine qn11 (w1:=?_) (by rfl) rfl ?_ ?_;rotate_left
  ·go_simp;rfl
  refine hK.out _ _ ?_;clear hK K;refine qa12 zm ?_;have hnb17:=NB291_292.out;have hnc17:=NB292_291.out;have hnb18:=NB291_293.out;have hnc18:=NB293_291.out;have hcz19_0:w12.cell? ⟨gb291,0,none⟩=some (Aa Ab a0_0):=(qm BK291.out 0).trans rfl;have hcz19_1:w12.cell? ⟨gb291,1,none⟩=some (Aa Ab a0_1):=(qm BK291.out 1).trans rfl;have hfz19_0:=qe BK291.out 0;have hfz19_1:=qe BK291.out 1;have hnb20:=NB292_293.out;have hnc20:=NB293_292.out;have hcz21_0:w12.cell? ⟨gb292,0,none⟩=some (Aa Ab a1_0):=(qm BK292.out 0).trans rfl;have hcz21_1:w12.cell? ⟨gb292,1,none⟩=some (Aa Ab a1_1):=(qm BK292.out 1).trans rfl;have hfz21_0:=qe BK292.out 0;have hfz21_1:=qe BK292.out 1
  try go_wp2_with (first | ((with_reducible refine qi1 (f:=160) rfl ?_);refine qr2 (some 17) rfl rfl Tryz.func160 zm rfl #[.agg #[Aa Ab t294,Aa Ab t295],.agg #[Aa Ab t296,Aa Ab t297]] rfl zk ?_;(with_reducible refine(dec_tagged.calls t294 t295 t296 t297 t298 t299 true _ A5.out).mono ?_);rintro e w22 ⟨rfl,hb⟩;refine⟨_,rfl,?_⟩;replace BK291:=Aside0.mk (qn (g:=gb291) (o:= .cells #[Aa Ab t294,Aa Ab t295] 24 (0,0)) (zc BK291.out) hb);replace BK292:=Aside0.mk (qn (g:=gb292) (o:= .cells #[Aa Ab t296,Aa Ab t297] 24 (0,0)) (zd BK292.out) hb);replace BK293:=Aside0.mk (qn (g:=gb293) (o:= .cells #[Aa Ab 0,Aa Ab 0] 24 (0,0)) (zh BK293.out) hb);replace HB:=Aside0.mk (qw zu hb);(try clear hb);(try clear hb2);(try clear hk);(try clear hi)) | ((with_reducible refine qc1 (N:=5) rfl ?_);refine qa1 ?hg (N:=5) ?hd (cs:= #[Aa Ab 0,Aa Ab 0]) (t:=24) ?hr ?_;(case hd=>rfl);(case hg=>rfl);(case hr=>first | (go_simp;done) | (go_simp;rfl));intro gb301 hg w23 hbox hb;have BK301:=Aside0.mk (hbox);have GW301:=Aside0.mk ((by rw [hg];exact(qu zu):w.heap.size≤gb301));have GE301:=Aside0.mk ((by rw [hg];exact(qu zu):w.heap.size≤gb301));replace HB:=Aside0.mk (qw zu hb);have NB291_301:=Aside0.mk ((by rw [hg];exact Bg (ql1 (g:=gb291) (o:= .cells #[Aa Ab t294,Aa Ab t295] 24 (0,0)) (za BK291.out)):gb291≠gb301));have NB301_291:=Aside0.mk ((by rw [hg];exact Bc (ql1 (g:=gb291) (o:= .cells #[Aa Ab t294,Aa Ab t295] 24 (0,0)) (za BK291.out)):gb301≠gb291));replace BK291:=Aside0.mk (qn (g:=gb291) (o:= .cells #[Aa Ab t294,Aa Ab t295] 24 (0,0)) (za BK291.out) hb);have NB292_301:=Aside0.mk ((by rw [hg];exact Bg (ql1 (g:=gb292) (o:= .cells #[Aa Ab t296,Aa Ab t297] 24 (0,0)) (za BK292.out)):gb292≠gb301));have NB301_292:=Aside0.mk ((by rw [hg];exact Bc (ql1 (g:=gb292) (o:= .cells #[Aa Ab t296,Aa Ab t297] 24 (0,0)) (za BK292.out)):gb301≠gb292));replace BK292:=Aside0.mk (qn (g:=gb292) (o:= .cells #[Aa Ab t296,Aa Ab t297] 24 (0,0)) (za BK292.out) hb);have NB293_301:=Aside0.mk ((by rw [hg];exact Bg (ql1 (g:=gb293) (o:= .cells #[Aa Ab 0,Aa Ab 0] 24 (0,0)) (za BK293.out)):gb293≠gb301));have NB301_293:=Aside0.mk ((by rw [hg];exact Bc (ql1 (g:=gb293) (o:= .cells #[Aa Ab 0,Aa Ab 0] 24 (0,0)) (za BK293.out)):gb301≠gb293));replace BK293:=Aside0.mk (qn (g:=gb293) (o:= .cells #[Aa Ab 0,Aa Ab 0] 24 (0,0)) (za BK293.out) hb);clear hb hbox hg;have hnb24:=NB301_291.out;have hnc24:=NB291_301.out;have hnb25:=NB301_292.out;have hnc25:=NB292_301.out;have hnb26:=NB301_293.out;have hnc26:=NB293_301.out;have hcz27_0:w23.cell? ⟨gb301,0,none⟩=some (Aa Ab 0):=(qm BK301.out 0).trans rfl;have hcz27_1:w23.cell? ⟨gb301,1,none⟩=some (Aa Ab 0):=(qm BK301.out 1).trans rfl;have hfz27_0:=qe BK301.out 0;have hfz27_1:=qe BK301.out 1;have hcz28_0:w23.cell? ⟨gb293,0,none⟩=some (Aa Ab 0):=(qm BK293.out 0).trans rfl;have hcz28_1:w23.cell? ⟨gb293,1,none⟩=some (Aa Ab 0):=(qm BK293.out 1).trans rfl;have hfz28_0:=qe BK293.out 0;have hfz28_1:=qe BK293.out 1))
  refine bodyPost_ret (results_cell_row rfl _ _ gb293 24 #[Aa Ab t298,Aa Ab t299] (0,0) _ rfl (by(with_reducible repeat(first | refine qi ?_ _ | refine qj ?_ | refine qb ?_ _));refine qk (cs:= #[Aa Ab t298,Aa Ab 0]) ?_ 1 _ rfl;(with_reducible repeat(first | refine qi ?_ _ | refine qj ?_ | refine qb ?_ _));refine qk (cs:= #[Aa Ab 0,Aa Ab 0]) ?_ 0 _ rfl;(with_reducible repeat(first | refine qi ?_ _ | refine qj ?_ | refine qb ?_ _));refine qh1 ?_ NB293_301.out _;(with_reducible repeat(first | refine qi ?_ _ | refine qj ?_ | refine qb ?_ _));refine qh1 ?_ NB293_301.out _;(with_reducible repeat(first | refine qi ?_ _ | refine qj ?_ | refine qb ?_ _));exact BK293.out) AC rfl zm) rfl ?_;exact⟨zo,zp⟩
 ·replace c6:=AR.mpr c6;subst c6;have H1:((bits_Add64.f (Am.wrap (t295)) (Am.wrap (t297)) 0).bind fun bt302=>(if t295>0 then(if t297>0 then(dec_Add.j0 k (wrap64 (bt302.1)) (decide ((wrap64 (bt302.1))≤0)) t294 t295 t296 t297)else(dec_Add.j0 k (wrap64 (bt302.1)) false t294 t295 t296 t297))else(dec_Add.j0 k (wrap64 (bt302.1)) false t294 t295 t296 t297)))=some (r1,r2):=by rw [if_neg (show ¬ (false=true) by decide)]at H;exact H
  clear H;have H:=H1;clear H1;replace H:=AB.mp H;obtain⟨⟨t302,t303⟩,A290,H⟩:=H;replace H:(if t295>0 then(if t297>0 then(dec_Add.j0 k (wrap64 (t302)) (decide ((wrap64 (t302))≤0)) t294 t295 t296 t297)else(dec_Add.j0 k (wrap64 (t302)) false t294 t295 t296 t297))else(dec_Add.j0 k (wrap64 (t302)) false t294 t295 t296 t297))=some (r1,r2):=H;have A29:=Aside0.mk A290;clear A290;have HC30:=Aside0.mk H;clear H;go_enter Tryz.func127,Tryz.ntmps127
  try go_wp2_with (first | ((with_reducible refine qc1 (N:=2) rfl ?_);refine qa1 ?hg (N:=2) ?hd (cs:= #[Aa Ab a0_0,Aa Ab a0_1]) (t:=24) ?hr ?_;(case hd=>rfl);(case hg=>rfl);(case hr=>first | (go_simp;done) | (go_simp;rfl));intro gb291 hg w31 hbox hb;have BK291:=Aside0.mk (hbox);have GW291:=Aside0.mk ((by rw [hg];exact(qu zj):w.heap.size≤gb291));have GE291:=Aside0.mk ((by rw [hg];exact(qu zj):w.heap.size≤gb291));replace HB:=Aside0.mk (qw zj hb);clear hb hbox hg) | ((with_reducible refine qc1 (N:=3) rfl ?_);refine qa1 ?hg (N:=3) ?hd (cs:= #[Aa Ab a1_0,Aa Ab a1_1]) (t:=24) ?hr ?_;(case hd=>rfl);(case hg=>rfl);(case hr=>first | (go_simp;done) | (go_simp;rfl));intro gb292 hg w32 hbox hb;have BK292:=Aside0.mk (hbox);have GW292:=Aside0.mk ((by rw [hg];exact(qu zah):w.heap.size≤gb292));have GE292:=Aside0.mk ((by rw [hg];exact(qu zah):w.heap.size≤gb292));replace HB:=Aside0.mk (qw zah hb);have NB291_292:=Aside0.mk ((by rw [hg];exact Bg (ql1 (g:=gb291) (o:= .cells #[Aa Ab a0_0,Aa Ab a0_1] 24 (0,0)) (za BK291.out)):gb291≠gb292));have NB292_291:=Aside0.mk ((by rw [hg];exact Bc (ql1 (g:=gb291) (o:= .cells #[Aa Ab a0_0,Aa Ab a0_1] 24 (0,0)) (za BK291.out)):gb292≠gb291));replace BK291:=Aside0.mk (qn (g:=gb291) (o:= .cells #[Aa Ab a0_0,Aa Ab a0_1] 24 (0,0)) (za BK291.out) hb);clear hb hbox hg) | ((with_reducible refine qc1 (N:=4) rfl ?_);refine qa1 ?hg (N:=4) ?hd (cs:= #[Aa Ab 0,Aa Ab 0]) (t:=24) ?hr ?_;(case hd=>rfl);(case hg=>rfl);(case hr=>first | (go_simp;done) | (go_simp;rfl));intro gb293 hg w33 hbox hb;have BK293:=Aside0.mk (hbox);have GW293:=Aside0.mk ((by rw [hg];exact(qu z8):w.heap.size≤gb293));have GE293:=Aside0.mk ((by rw [hg];exact(qu z8):w.heap.size≤gb293));replace HB:=Aside0.mk (qw z8 hb);have NB291_293:=Aside0.mk ((by rw [hg];exact Bg (ql1 (g:=gb291) (o:= .cells #[Aa Ab a0_0,Aa Ab a0_1] 24 (0,0)) (za BK291.out)):gb291≠gb293));have NB293_291:=Aside0.mk ((by rw [hg];exact Bc (ql1 (g:=gb291) (o:= .cells #[Aa Ab a0_0,Aa Ab a0_1] 24 (0,0)) (za BK291.out)):gb293≠gb291));replace BK291:=Aside0.mk (qn (g:=gb291) (o:= .cells #[Aa Ab a0_0,Aa Ab a0_1] 24 (0,0)) (za BK291.out) hb);have NB292_293:=Aside0.mk ((by rw [hg];exact Bg (ql1 (g:=gb292) (o:= .cells #[Aa Ab a1_0,Aa Ab a1_1] 24 (0,0)) (za BK292.out)):gb292≠gb293));have NB293_292:=Aside0.mk ((by rw [hg];exact Bc (ql1 (g:=gb292) (o:= .cells #[Aa Ab a1_0,Aa Ab a1_1] 24 (0,0)) (za BK292.out)):gb293≠gb292));replace BK292:=Aside0.mk (qn (g:=gb292) (o:= .cells #[Aa Ab a1_0,Aa Ab a1_1] 24 (0,0)) (za BK292.out) hb);clear hb hbox hg))
  replace BK291:=Aside0.mk (qj BK291.out);replace BK292:=Aside0.mk (qj BK292.out);replace BK293:=Aside0.mk (qj BK293.out);replace HB:=Aside0.mk (qh HB.out);refine qq6 (n:=6) (S:=fun w'=>w'.cell? ⟨gb291,0,none⟩=some (Aa Ab a0_0)∧w'.cell? ⟨gb291,1,none⟩=some (Aa Ab a0_1)∧w'.cell? ⟨gb292,0,none⟩=some (Aa Ab a1_0)∧w'.cell? ⟨gb292,1,none⟩=some (Aa Ab a1_1)) (ds:=[4,5]) #[false,false,false,false,false,false] zm rfl rfl ⟨(qm BK291.out 0).trans rfl,(qm BK291.out 1).trans rfl,(qm BK292.out 0).trans rfl,(qm BK292.out 1).trans rfl⟩ (fun hHeld=>?_);generalize w33.drew=w34 at BK291 BK292 BK293 HB hHeld ⊢;refine qz4 (i:=0) (N:=some 10) (v:=?_) (a':=?_) #[true,false,false,false,false,false] rfl rfl zm (fun _ _ _ h=>h) (Bv ⟨by rfl,?_⟩) hHeld ?_ ?_;rotate_left
  ·rintro w' ⟨s0,s1,s2,s3⟩;go_simp
   with_reducible rfl
  rotate_left
  ·simp only [AP,Ap,Aw,Ax,qm1];rfl
  refine qz4 (i:=2) (N:=some 12) (v:=?_) (a':=?_) #[true,false,true,false,false,false] rfl rfl zm (fun _ _ _ h=>h) (Bv ⟨by rfl,?_⟩) hHeld ?_ ?_;rotate_left
  ·rintro w' ⟨s0,s1,s2,s3⟩;go_simp
   with_reducible rfl
  rotate_left
  ·simp only [AP,Ap,Aw,Ax,qm1];rfl
  refine qw9 (i:=1) (N:=some 11) #[true,true,true,false,false,false] rfl rfl zm (by decide) (fun K hK=>?_);refine ql4 Tryz.func159 zm rfl #[.agg #[Aa Ab a0_0,Aa Ab a0_1]] (by rfl) rfl rfl zk ?_
  with_reducible refine(dec_right.calls a0_0 a0_1 t294 t295 _ A3.out).mono ?_
  rintro e w35 ⟨rfl,hb⟩;refine⟨_,rfl,?_⟩;replace BK291:=Aside0.mk (qn (g:=gb291) (o:= .cells #[Aa Ab a0_0,Aa Ab a0_1] 24 (0,0)) (za BK291.out) hb);replace BK292:=Aside0.mk (qn (g:=gb292) (o:= .cells #[Aa Ab a1_0,Aa Ab a1_1] 24 (0,0)) (za BK292.out) hb);replace BK293:=Aside0.mk (qn (g:=gb293) (o:= .cells #[Aa Ab 0,Aa Ab 0] 24 (0,0)) (za BK293.out) hb);replace HB:=Aside0.mk (qw zu hb);(try clear hb);(try clear hb2);(try clear hk);(try clear hi);refine hK.out _ _ ⟨(qm BK291.out 0).trans rfl,(qm BK291.out 1).trans rfl,(qm BK292.out 0).trans rfl,(qm BK292.out 1).trans rfl⟩ (fun hHeld=>?_);clear hK K;refine qk4 (a':=?_) ?_ ?_;rotate_left
  ·show AP _ (some 11) _=_;simp only [AP,Ap,Aw,Ax,qm1];rfl
  refine qw9 (i:=3) (N:=some 13) #[true,true,true,true,false,false] rfl rfl zm (by decide) (fun K hK=>?_);refine ql4 Tryz.func159 zm rfl #[.agg #[Aa Ab a1_0,Aa Ab a1_1]] (by rfl) rfl rfl zk ?_
  with_reducible refine(dec_right.calls a1_0 a1_1 t296 t297 _ A4.out).mono ?_
  rintro e w36 ⟨rfl,hb⟩;refine⟨_,rfl,?_⟩;replace BK291:=Aside0.mk (qn (g:=gb291) (o:= .cells #[Aa Ab a0_0,Aa Ab a0_1] 24 (0,0)) (za BK291.out) hb);replace BK292:=Aside0.mk (qn (g:=gb292) (o:= .cells #[Aa Ab a1_0,Aa Ab a1_1] 24 (0,0)) (za BK292.out) hb);replace BK293:=Aside0.mk (qn (g:=gb293) (o:= .cells #[Aa Ab 0,Aa Ab 0] 24 (0,0)) (za BK293.out) hb);replace HB:=Aside0.mk (qw zu hb);(try clear hb);(try clear hb2);(try clear hk);(try clear hi);refine hK.out _ _ ⟨(qm BK291.out 0).trans rfl,(qm BK291.out 1).trans rfl,(qm BK292.out 0).trans rfl,(qm BK292.out 1).trans rfl⟩ (fun hHeld=>?_);clear hK K;refine qk4 (a':=?_) ?_ ?_;rotate_left
  ·show AP _ (some 13) _=_;simp only [AP,Ap,Aw,Ax,qm1];rfl
  refine qh13 (i:=4) (N:=none) #[true,true,true,true,true,false] rfl rfl zm (by decide) (fun K hK=>?_);have hs37:w36.cell? ⟨gb291,0,none⟩=some (Aa Ab a0_0):=(qm BK291.out 0).trans rfl;have hfs37:=qe BK291.out 0;have hns37_1:=NB292_291.out;have hns37_2:=NB293_291.out;have hms37_1:=NB291_292.out;have hms37_2:=NB291_293.out;have hs38:w36.cell? ⟨gb291,1,none⟩=some (Aa Ab a0_1):=(qm BK291.out 1).trans rfl;have hfs38:=qe BK291.out 1;have hns38_1:=NB292_291.out;have hns38_2:=NB293_291.out;have hms38_1:=NB291_292.out;have hms38_2:=NB291_293.out;refine qn11 (w1:=?_) (by rfl) rfl ?_ ?_;rotate_left
  ·go_simp;rfl
  refine hK.out _ _ ?_;clear hK K;refine qh13 (i:=5) (N:=none) #[true,true,true,true,true,true] rfl rfl zm (by decide) (fun K hK=>?_);have hs39:w36.cell? ⟨gb292,0,none⟩=some (Aa Ab a1_0):=(qm BK292.out 0).trans rfl;have hfs39:=qe BK292.out 0;have hns39_0:=NB291_292.out;have hns39_2:=NB293_292.out;have hms39_0:=NB292_291.out;have hms39_2:=NB292_293.out;have hs40:w36.cell? ⟨gb292,1,none⟩=some (Aa Ab a1_1):=(qm BK292.out 1).trans rfl;have hfs40:=qe BK292.out 1;have hns40_0:=NB291_292.out;have hns40_2:=NB293_292.out;have hms40_0:=NB292_291.out;have hms40_2:=NB292_293.out;refine qn11 (w1:=?_) (by rfl) rfl ?_ ?_;rotate_left
  ·go_simp;rfl
  refine hK.out _ _ ?_;clear hK K;refine qa12 zm ?_;have hnb41:=NB291_292.out;have hnc41:=NB292_291.out;have hnb42:=NB291_293.out;have hnc42:=NB293_291.out;have hcz43_0:w36.cell? ⟨gb291,0,none⟩=some (Aa Ab a0_0):=(qm BK291.out 0).trans rfl;have hcz43_1:w36.cell? ⟨gb291,1,none⟩=some (Aa Ab a0_1):=(qm BK291.out 1).trans rfl;have hfz43_0:=qe BK291.out 0;have hfz43_1:=qe BK291.out 1;have hnb44:=NB292_293.out;have hnc44:=NB293_292.out;have hcz45_0:w36.cell? ⟨gb292,0,none⟩=some (Aa Ab a1_0):=(qm BK292.out 0).trans rfl;have hcz45_1:w36.cell? ⟨gb292,1,none⟩=some (Aa Ab a1_1):=(qm BK292.out 1).trans rfl;have hfz45_0:=qe BK292.out 0;have hfz45_1:=qe BK292.out 1
  go_upto_region 8 with (first | ((with_reducible refine qi1 (f:=160) rfl ?_);refine qr2 (some 17) rfl rfl Tryz.func160 zm rfl #[.agg #[Aa Ab t294,Aa Ab t295],.agg #[Aa Ab t296,Aa Ab t297]] rfl zk ?_;(with_reducible refine(dec_tagged.calls t294 t295 t296 t297 t298 t299 false _ A5.out).mono ?_);rintro e w46 ⟨rfl,hb⟩;refine⟨_,rfl,?_⟩;replace BK291:=Aside0.mk (qn (g:=gb291) (o:= .cells #[Aa Ab t294,Aa Ab t295] 24 (0,0)) (zc BK291.out) hb);replace BK292:=Aside0.mk (qn (g:=gb292) (o:= .cells #[Aa Ab t296,Aa Ab t297] 24 (0,0)) (zd BK292.out) hb);replace BK293:=Aside0.mk (qn (g:=gb293) (o:= .cells #[Aa Ab 0,Aa Ab 0] 24 (0,0)) (zh BK293.out) hb);replace HB:=Aside0.mk (qw zu hb);(try clear hb);(try clear hb2);(try clear hk);(try clear hi)) | ((with_reducible refine qc1 (N:=5) rfl ?_);refine qa1 ?hg (N:=5) ?hd (cs:= #[Aa Ab 0,Aa Ab 0]) (t:=24) ?hr ?_;(case hd=>rfl);(case hg=>rfl);(case hr=>first | (go_simp;done) | (go_simp;rfl));intro gb301 hg w47 hbox hb;have BK301:=Aside0.mk (hbox);have GW301:=Aside0.mk ((by rw [hg];exact(qu zu):w.heap.size≤gb301));have GE301:=Aside0.mk ((by rw [hg];exact(qu zu):w.heap.size≤gb301));replace HB:=Aside0.mk (qw zu hb);have NB291_301:=Aside0.mk ((by rw [hg];exact Bg (ql1 (g:=gb291) (o:= .cells #[Aa Ab t294,Aa Ab t295] 24 (0,0)) (za BK291.out)):gb291≠gb301));have NB301_291:=Aside0.mk ((by rw [hg];exact Bc (ql1 (g:=gb291) (o:= .cells #[Aa Ab t294,Aa Ab t295] 24 (0,0)) (za BK291.out)):gb301≠gb291));replace BK291:=Aside0.mk (qn (g:=gb291) (o:= .cells #[Aa Ab t294,Aa Ab t295] 24 (0,0)) (za BK291.out) hb);have NB292_301:=Aside0.mk ((by rw [hg];exact Bg (ql1 (g:=gb292) (o:= .cells #[Aa Ab t296,Aa Ab t297] 24 (0,0)) (za BK292.out)):gb292≠gb301));have NB301_292:=Aside0.mk ((by rw [hg];exact Bc (ql1 (g:=gb292) (o:= .cells #[Aa Ab t296,Aa Ab t297] 24 (0,0)) (za BK292.out)):gb301≠gb292));replace BK292:=Aside0.mk (qn (g:=gb292) (o:= .cells #[Aa Ab t296,Aa Ab t297] 24 (0,0)) (za BK292.out) hb);have NB293_301:=Aside0.mk ((by rw [hg];exact Bg (ql1 (g:=gb293) (o:= .cells #[Aa Ab 0,Aa Ab 0] 24 (0,0)) (za BK293.out)):gb293≠gb301));have NB301_293:=Aside0.mk ((by rw [hg];exact Bc (ql1 (g:=gb293) (o:= .cells #[Aa Ab 0,Aa Ab 0] 24 (0,0)) (za BK293.out)):gb301≠gb293));replace BK293:=Aside0.mk (qn (g:=gb293) (o:= .cells #[Aa Ab 0,Aa Ab 0] 24 (0,0)) (za BK293.out) hb);clear hb hbox hg;have hnb48:=NB301_291.out;have hnc48:=NB291_301.out;have hnb49:=NB301_292.out;have hnc49:=NB292_301.out;have hnb50:=NB301_293.out;have hnc50:=NB293_301.out;have hcz51_0:w47.cell? ⟨gb301,0,none⟩=some (Aa Ab 0):=(qm BK301.out 0).trans rfl;have hcz51_1:w47.cell? ⟨gb301,1,none⟩=some (Aa Ab 0):=(qm BK301.out 1).trans rfl;have hfz51_0:=qe BK301.out 0;have hfz51_1:=qe BK301.out 1;have hcz52_0:w47.cell? ⟨gb291,0,none⟩=some (Aa Ab t294):=(qm BK291.out 0).trans rfl;have hcz52_1:w47.cell? ⟨gb291,1,none⟩=some (Aa Ab t295):=(qm BK291.out 1).trans rfl;have hfz52_0:=qe BK291.out 0;have hfz52_1:=qe BK291.out 1;have hcz53_0:w47.cell? ⟨gb292,0,none⟩=some (Aa Ab t296):=(qm BK292.out 0).trans rfl;have hcz53_1:w47.cell? ⟨gb292,1,none⟩=some (Aa Ab t297):=(qm BK292.out 1).trans rfl;have hfz53_0:=qe BK292.out 0;have hfz53_1:=qe BK292.out 1) | ((with_reducible refine qi1 (f:=161) rfl ?_);refine Mine.goesX_ (some 29) rfl rfl Tryz.func161 zm rfl #[.int .u64 (Am.wrap (t295)),.int .u64 (Am.wrap (t297)),.int .u64 0] rfl zk ?_;(with_reducible refine(bits_Add64.calls (Am.wrap (t295)) (Am.wrap (t297)) 0 t302 t303 _ A29.out).mono ?_);rintro e w' ⟨rfl,⟨nd,rfl⟩⟩;refine⟨_,rfl,?_⟩))
  (try simp only [AP,Ap,Aw,Ax]);go_cut [35] (fun v35 wc=>∃ (kq:Nat) (x35_29:Bool),v35= Ae x35_29∧Aside0 (dec_Add.j0 kq (wrap64 (t302)) x35_29 t294 t295 t296 t297=some (r1,r2))∧Aside0 (kq≤k)∧Aside0 (wc.heap[gb291]?=some (.cells #[Aa Ab t294,Aa Ab t295] 24 (0,0)))∧Aside0 (wc.heap[gb292]?=some (.cells #[Aa Ab t296,Aa Ab t297] 24 (0,0)))∧Aside0 (wc.heap[gb293]?=some (.cells #[Aa Ab 0,Aa Ab 0] 24 (0,0)))∧Aside0 (wc.heap[gb301]?=some (.cells #[Aa Ab t298,Aa Ab t299] 24 (0,0)))∧Aside0 (Below w.heap.size w wc))
  case first=>
   have H:=HC30.out;clear HC30;by_cases c54:t295>0
   ·rw [if_pos c54]at H;have c54b0:decide (0<t295)=true:=decide_eq_true c54;clear c54
    (first | rw [c54b0] | (simp only [qm1];rw [c54b0]) | skip)
    by_cases c55:t297>0
    ·rw [if_pos c55]at H;have c55b0:decide (0<t297)=true:=decide_eq_true c55;clear c55;have H':=Aside0.mk H;clear H;have hnb56:=NB291_292.out;have hnc56:=NB292_291.out;have hnb57:=NB291_293.out;have hnc57:=NB293_291.out;have hnb58:=NB291_301.out;have hnc58:=NB301_291.out;have hcz59_0:w47.cell? ⟨gb291,0,none⟩=some (Aa Ab t294):=(qm BK291.out 0).trans rfl;have hcz59_1:w47.cell? ⟨gb291,1,none⟩=some (Aa Ab t295):=(qm BK291.out 1).trans rfl;have hfz59_0:=qe BK291.out 0;have hfz59_1:=qe BK291.out 1;have hnb60:=NB292_293.out;have hnc60:=NB293_292.out;have hnb61:=NB292_301.out;have hnc61:=NB301_292.out;have hcz62_0:w47.cell? ⟨gb292,0,none⟩=some (Aa Ab t296):=(qm BK292.out 0).trans rfl;have hcz62_1:w47.cell? ⟨gb292,1,none⟩=some (Aa Ab t297):=(qm BK292.out 1).trans rfl;have hfz62_0:=qe BK292.out 0;have hfz62_1:=qe BK292.out 1;go_wp2;go_meet
     case rel=>exact⟨_,(decide ((wrap64 (t302))≤0)),zq,H',⟨zas⟩,⟨zad⟩,⟨zae⟩,⟨zaf⟩,⟨zab⟩,⟨zp⟩⟩
    ·rw [if_neg c55]at H;have c55b0:decide (0<t297)=false:=decide_eq_false c55;clear c55;have H':=Aside0.mk H;clear H;have hnb63:=NB291_292.out;have hnc63:=NB292_291.out;have hnb64:=NB291_293.out;have hnc64:=NB293_291.out;have hnb65:=NB291_301.out;have hnc65:=NB301_291.out;have hcz66_0:w47.cell? ⟨gb291,0,none⟩=some (Aa Ab t294):=(qm BK291.out 0).trans rfl;have hcz66_1:w47.cell? ⟨gb291,1,none⟩=some (Aa Ab t295):=(qm BK291.out 1).trans rfl;have hfz66_0:=qe BK291.out 0;have hfz66_1:=qe BK291.out 1;have hnb67:=NB292_293.out;have hnc67:=NB293_292.out;have hnb68:=NB292_301.out;have hnc68:=NB301_292.out;have hcz69_0:w47.cell? ⟨gb292,0,none⟩=some (Aa Ab t296):=(qm BK292.out 0).trans rfl;have hcz69_1:w47.cell? ⟨gb292,1,none⟩=some (Aa Ab t297):=(qm BK292.out 1).trans rfl;have hfz69_0:=qe BK292.out 0;have hfz69_1:=qe BK292.out 1;go_wp2;go_meet
     case rel=>exact⟨_,(false),zq,H',⟨zas⟩,⟨zad⟩,⟨zae⟩,⟨zaf⟩,⟨zab⟩,⟨zp⟩⟩
   ·rw [if_neg c54]at H;have c54b0:decide (0<t295)=false:=decide_eq_false c54;clear c54
    (first | rw [c54b0] | (simp only [qm1];rw [c54b0]) | skip)
    have H':=Aside0.mk H;clear H;have hnb70:=NB291_292.out;have hnc70:=NB292_291.out;have hnb71:=NB291_293.out;have hnc71:=NB293_291.out;have hnb72:=NB291_301.out;have hnc72:=NB301_291.out;have hcz73_0:w47.cell? ⟨gb291,0,none⟩=some (Aa Ab t294):=(qm BK291.out 0).trans rfl;have hcz73_1:w47.cell? ⟨gb291,1,none⟩=some (Aa Ab t295):=(qm BK291.out 1).trans rfl;have hfz73_0:=qe BK291.out 0;have hfz73_1:=qe BK291.out 1;go_wp2;go_meet
    case rel=>exact⟨_,(false),zq,H',⟨zas⟩,⟨zad⟩,⟨zae⟩,⟨zaf⟩,⟨zab⟩,⟨zp⟩⟩
  case rest=>
   clear HC30
   try clear c1
   try clear c2
   try clear p2
   try clear c4
   try clear c5
   try clear c6
   try clear p6
   try clear c7
   try clear c12
   try clear c15
   try clear c16
   try clear c17
   try clear c18
   try clear c20
   try clear c24
   try clear c25
   try clear c26
   try clear c41
   try clear c42
   try clear c44
   try clear c48
   try clear c49
   try clear c50
   try clear c54
   try clear c54b0
   try clear c55
   try clear c55b0
   try clear c56
   try clear c57
   try clear c58
   try clear c60
   try clear c61
   try clear c63
   try clear c64
   try clear p64
   try clear c65
   try clear c67
   try clear c68
   try clear c70
   try clear c71
   try clear c72
   try clear hcz19_0
   try clear hcz19_1
   try clear hcz21_0
   try clear hcz21_1
   try clear hcz27_0
   try clear hcz27_1
   try clear hcz28_0
   try clear hcz28_1
   try clear hcz43_0
   try clear hcz43_1
   try clear hcz45_0
   try clear hcz45_1
   try clear hcz51_0
   try clear hcz51_1
   try clear hcz52_0
   try clear hcz52_1
   try clear hcz53_0
   try clear hcz53_1
   try clear hcz59_0
   try clear hcz59_1
   try clear hcz62_0
   try clear hcz62_1
   try clear hcz66_0
   try clear hcz66_1
   try clear hcz69_0
   try clear hcz69_1
   try clear hcz73_0
   try clear hcz73_1
   try clear hfz19_0
   try clear hfz19_1
   try clear hfz21_0
   try clear hfz21_1
   try clear hfz27_0
   try clear hfz27_1
   try clear hfz28_0
   try clear hfz28_1
   try clear hfz43_0
   try clear hfz43_1
   try clear hfz45_0
   try clear hfz45_1
   try clear hfz51_0
   try clear hfz51_1
   try clear hfz52_0
   try clear hfz52_1
   try clear hfz53_0
   try clear hfz53_1
   try clear hfz59_0
   try clear hfz59_1
   try clear hfz62_0
   try clear hfz62_1
   try clear hfz66_0
   try clear hfz66_1
   try clear hfz69_0
   try clear hfz69_1
   try clear hfz73_0
   try clear hfz73_1
   obtain⟨kq,x35_29,rfl,HA,HJ29,BK291,BK292,BK293,BK301,HB⟩:=hcut
   cases kq with
   | zero=>exact absurd HA.out (by simp [dec_Add.j0])
   | succ kj29=>
    have H:=HA.out;clear HA;simp only [dec_Add.j0]at H;by_cases c74:x35_29=true
    ·subst c74;have H1:((dec_over.f).bind fun bt304=>(some (bt304.1,bt304.2)))=some (r1,r2):=by rw [if_pos rfl]at H;exact H
     clear H;have H:=H1;clear H1;replace H:=AB.mp H;obtain⟨⟨t304,t305⟩,A750,H⟩:=H;replace H:(some (t304,t305))=some (r1,r2):=H;have A75:=Aside0.mk A750;clear A750;simp only [Ay.injEq,AU]at H;obtain⟨rfl,rfl⟩:=H;go_wp2_with (first | ((with_reducible refine qi1 (f:=162) rfl ?_);refine qr2 (some 48) rfl rfl Tryz.func162 zm rfl #[] rfl zk ?_;(with_reducible refine(dec_over.calls t304 t305 _ A75.out).mono ?_);rintro e w76 ⟨rfl,hb⟩;refine⟨_,rfl,?_⟩;replace BK291:=Aside0.mk (qn (g:=gb291) (o:= .cells #[Aa Ab t294,Aa Ab t295] 24 (0,0)) (za BK291.out) hb);replace BK292:=Aside0.mk (qn (g:=gb292) (o:= .cells #[Aa Ab t296,Aa Ab t297] 24 (0,0)) (za BK292.out) hb);replace BK293:=Aside0.mk (qn (g:=gb293) (o:= .cells #[Aa Ab 0,Aa Ab 0] 24 (0,0)) (za BK293.out) hb);replace BK301:=Aside0.mk (qn (g:=gb301) (o:= .cells #[Aa Ab t298,Aa Ab t299] 24 (0,0)) (za BK301.out) hb);replace HB:=Aside0.mk (qw zp hb);(try clear hb);(try clear hb2);(try clear hk);(try clear hi);have hnb77:=NB293_291.out;have hnc77:=NB291_293.out;have hnb78:=NB293_292.out;have hnc78:=NB292_293.out;have hnb79:=NB293_301.out;have hnc79:=NB301_293.out;have hcz80_0:w76.cell? ⟨gb293,0,none⟩=some (Aa Ab 0):=(qm BK293.out 0).trans rfl;have hcz80_1:w76.cell? ⟨gb293,1,none⟩=some (Aa Ab 0):=(qm BK293.out 1).trans rfl;have hfz80_0:=qe BK293.out 0;have hfz80_1:=qe BK293.out 1))
     refine bodyPost_ret (results_cell_row rfl _ _ gb293 24 #[Aa Ab t304,Aa Ab t305] (0,0) _ rfl (by(with_reducible repeat(first | refine qi ?_ _ | refine qj ?_ | refine qb ?_ _));refine qk (cs:= #[Aa Ab t304,Aa Ab 0]) ?_ 1 _ rfl;(with_reducible repeat(first | refine qi ?_ _ | refine qj ?_ | refine qb ?_ _));refine qk (cs:= #[Aa Ab 0,Aa Ab 0]) ?_ 0 _ rfl;(with_reducible repeat(first | refine qi ?_ _ | refine qj ?_ | refine qb ?_ _));exact BK293.out) AC rfl zm) rfl ?_;exact⟨zo,zp⟩
    ·replace c74:=AR.mpr c74;subst c74;have H1:(if t295<0 then(if t297<0 then(if(wrap64 (t302))≥0 then((dec_under.f).bind fun bt306=>(some (bt306.1,bt306.2)))else(if(wrap64 (t302))=(-9223372036854775808)then((dec_under.f).bind fun bt308=>(some (bt308.1,bt308.2)))else(some (0,(wrap64 (t302))))))else(some (0,(wrap64 (t302)))))else(some (0,(wrap64 (t302)))))=some (r1,r2):=by rw [if_neg (show ¬ (false=true) by decide)]at H;exact H
     clear H;have H:=H1;clear H1;by_cases c81:t295<0
     ·rw [if_pos c81]at H;have c81b0:decide (t295<0)=true:=decide_eq_true c81;clear c81;by_cases c82:t297<0
      ·rw [if_pos c82]at H;have c82b0:decide (t297<0)=true:=decide_eq_true c82;clear c82;by_cases c83:(wrap64 (t302))≥0
       ·rw [if_pos c83]at H;have c83b0:decide (0≤(wrap64 (t302)))=true:=decide_eq_true c83;clear c83;replace H:=AB.mp H;obtain⟨⟨t306,t307⟩,A840,H⟩:=H;replace H:(some (t306,t307))=some (r1,r2):=H;have A84:=Aside0.mk A840;clear A840;simp only [Ay.injEq,AU]at H;obtain⟨rfl,rfl⟩:=H;have hnb85:=NB291_292.out;have hnc85:=NB292_291.out;have hnb86:=NB291_293.out;have hnc86:=NB293_291.out;have hnb87:=NB291_301.out;have hnc87:=NB301_291.out;have hcz88_0:wc.cell? ⟨gb291,0,none⟩=some (Aa Ab t294):=(qm BK291.out 0).trans rfl;have hcz88_1:wc.cell? ⟨gb291,1,none⟩=some (Aa Ab t295):=(qm BK291.out 1).trans rfl;have hfz88_0:=qe BK291.out 0;have hfz88_1:=qe BK291.out 1;have hnb89:=NB292_293.out;have hnc89:=NB293_292.out;have hnb90:=NB292_301.out;have hnc90:=NB301_292.out;have hcz91_0:wc.cell? ⟨gb292,0,none⟩=some (Aa Ab t296):=(qm BK292.out 0).trans rfl;have hcz91_1:wc.cell? ⟨gb292,1,none⟩=some (Aa Ab t297):=(qm BK292.out 1).trans rfl;have hfz91_0:=qe BK292.out 0;have hfz91_1:=qe BK292.out 1;go_wp2_with (first | ((with_reducible refine qi1 (f:=153) rfl ?_);refine qr2 (some 66) rfl rfl Tryz.func153 zm rfl #[] rfl zk ?_;(with_reducible refine(dec_under.calls t306 t307 _ A84.out).mono ?_);rintro e w92 ⟨rfl,hb⟩;refine⟨_,rfl,?_⟩;replace BK291:=Aside0.mk (qn (g:=gb291) (o:= .cells #[Aa Ab t294,Aa Ab t295] 24 (0,0)) (za BK291.out) hb);replace BK292:=Aside0.mk (qn (g:=gb292) (o:= .cells #[Aa Ab t296,Aa Ab t297] 24 (0,0)) (za BK292.out) hb);replace BK293:=Aside0.mk (qn (g:=gb293) (o:= .cells #[Aa Ab 0,Aa Ab 0] 24 (0,0)) (za BK293.out) hb);replace BK301:=Aside0.mk (qn (g:=gb301) (o:= .cells #[Aa Ab t298,Aa Ab t299] 24 (0,0)) (za BK301.out) hb);replace HB:=Aside0.mk (qw zp hb);(try clear hb);(try clear hb2);(try clear hk);(try clear hi);have hnb93:=NB293_301.out;have hnc93:=NB301_293.out;have hcz94_0:w92.cell? ⟨gb293,0,none⟩=some (Aa Ab 0):=(qm BK293.out 0).trans rfl;have hcz94_1:w92.cell? ⟨gb293,1,none⟩=some (Aa Ab 0):=(qm BK293.out 1).trans rfl;have hfz94_0:=qe BK293.out 0;have hfz94_1:=qe BK293.out 1))
        refine bodyPost_ret (results_cell_row rfl _ _ gb293 24 #[Aa Ab t306,Aa Ab t307] (0,0) _ rfl (by(with_reducible repeat(first | refine qi ?_ _ | refine qj ?_ | refine qb ?_ _));refine qk (cs:= #[Aa Ab t306,Aa Ab 0]) ?_ 1 _ rfl;(with_reducible repeat(first | refine qi ?_ _ | refine qj ?_ | refine qb ?_ _));refine qk (cs:= #[Aa Ab 0,Aa Ab 0]) ?_ 0 _ rfl;(with_reducible repeat(first | refine qi ?_ _ | refine qj ?_ | refine qb ?_ _));exact BK293.out) AC rfl zm) rfl ?_;exact⟨zo,zp⟩
       ·rw [if_neg c83]at H;have c83b0:decide (0≤(wrap64 (t302)))=false:=decide_eq_false c83;clear c83;by_cases c95:(wrap64 (t302))=(-9223372036854775808)
        ·rw [if_pos c95]at H;have c95b0:((wrap64 (t302)) == (-9223372036854775808))=true:=beq_iff_eq.mpr c95;have c95b1:((wrap64 (t302)) !=(-9223372036854775808))=false:=bne_eq_false_iff_eq.mpr c95;clear c95;replace H:=AB.mp H;obtain⟨⟨t308,t309⟩,A960,H⟩:=H;replace H:(some (t308,t309))=some (r1,r2):=H;have A96:=Aside0.mk A960;clear A960;simp only [Ay.injEq,AU]at H;obtain⟨rfl,rfl⟩:=H;have hnb97:=NB291_292.out;have hnc97:=NB292_291.out;have hnb98:=NB291_293.out;have hnc98:=NB293_291.out;have hnb99:=NB291_301.out;have hnc99:=NB301_291.out;have hcz100_0:wc.cell? ⟨gb291,0,none⟩=some (Aa Ab t294):=(qm BK291.out 0).trans rfl;have hcz100_1:wc.cell? ⟨gb291,1,none⟩=some (Aa Ab t295):=(qm BK291.out 1).trans rfl;have hfz100_0:=qe BK291.out 0;have hfz100_1:=qe BK291.out 1;have hnb101:=NB292_293.out;have hnc101:=NB293_292.out;have hnb102:=NB292_301.out;have hnc102:=NB301_292.out;have hcz103_0:wc.cell? ⟨gb292,0,none⟩=some (Aa Ab t296):=(qm BK292.out 0).trans rfl;have hcz103_1:wc.cell? ⟨gb292,1,none⟩=some (Aa Ab t297):=(qm BK292.out 1).trans rfl;have hfz103_0:=qe BK292.out 0;have hfz103_1:=qe BK292.out 1
         go_wp2_with (first | ((with_reducible refine qi1 (f:=153) rfl ?_);refine qr2 (some 66) rfl rfl Tryz.func153 zm rfl #[] rfl zk ?_;(with_reducible refine(dec_under.calls t308 t309 _ A96.out).mono ?_);rintro e w104 ⟨rfl,hb⟩;refine⟨_,rfl,?_⟩;replace BK291:=Aside0.mk (qn (g:=gb291) (o:= .cells #[Aa Ab t294,Aa Ab t295] 24 (0,0)) (za BK291.out) hb);replace BK292:=Aside0.mk (qn (g:=gb292) (o:= .cells #[Aa Ab t296,Aa Ab t297] 24 (0,0)) (za BK292.out) hb);replace BK293:=Aside0.mk (qn (g:=gb293) (o:= .cells #[Aa Ab 0,Aa Ab 0] 24 (0,0)) (za BK293.out) hb);replace BK301:=Aside0.mk (qn (g:=gb301) (o:= .cells #[Aa Ab t298,Aa Ab t299] 24 (0,0)) (za BK301.out) hb);replace HB:=Aside0.mk (qw zp hb);(try clear hb);(try clear hb2);(try clear hk);(try clear hi);have hnb105:=NB293_301.out;have hnc105:=NB301_293.out;have hcz106_0:w104.cell? ⟨gb293,0,none⟩=some (Aa Ab 0):=(qm BK293.out 0).trans rfl;have hcz106_1:w104.cell? ⟨gb293,1,none⟩=some (Aa Ab 0):=(qm BK293.out 1).trans rfl;have hfz106_0:=qe BK293.out 0;have hfz106_1:=qe BK293.out 1))
         refine bodyPost_ret (results_cell_row rfl _ _ gb293 24 #[Aa Ab t308,Aa Ab t309] (0,0) _ rfl (by(with_reducible repeat(first | refine qi ?_ _ | refine qj ?_ | refine qb ?_ _));refine qk (cs:= #[Aa Ab t308,Aa Ab 0]) ?_ 1 _ rfl;(with_reducible repeat(first | refine qi ?_ _ | refine qj ?_ | refine qb ?_ _));refine qk (cs:= #[Aa Ab 0,Aa Ab 0]) ?_ 0 _ rfl;(with_reducible repeat(first | refine qi ?_ _ | refine qj ?_ | refine qb ?_ _));exact BK293.out) AC rfl zm) rfl ?_;exact⟨zo,zp⟩
        ·rw [if_neg c95]at H;have c95b0:((wrap64 (t302)) == (-9223372036854775808))=false:=beq_eq_false_iff_ne.mpr c95;have c95b1:((wrap64 (t302)) !=(-9223372036854775808))=true:=bne_iff_ne.mpr c95;simp only [Ay.injEq,AU]at H;obtain⟨rfl,rfl⟩:=H;have hnb107:=NB291_292.out;have hnc107:=NB292_291.out;have hnb108:=NB291_293.out;have hnc108:=NB293_291.out;have hnb109:=NB291_301.out;have hnc109:=NB301_291.out;have hcz110_0:wc.cell? ⟨gb291,0,none⟩=some (Aa Ab t294):=(qm BK291.out 0).trans rfl;have hcz110_1:wc.cell? ⟨gb291,1,none⟩=some (Aa Ab t295):=(qm BK291.out 1).trans rfl;have hfz110_0:=qe BK291.out 0;have hfz110_1:=qe BK291.out 1;have hnb111:=NB292_293.out;have hnc111:=NB293_292.out;have hnb112:=NB292_301.out;have hnc112:=NB301_292.out;have hcz113_0:wc.cell? ⟨gb292,0,none⟩=some (Aa Ab t296):=(qm BK292.out 0).trans rfl;have hcz113_1:wc.cell? ⟨gb292,1,none⟩=some (Aa Ab t297):=(qm BK292.out 1).trans rfl;have hfz113_0:=qe BK292.out 0;have hfz113_1:=qe BK292.out 1;have hnb114:=NB293_301.out;have hnc114:=NB301_293.out;have hcz115_0:wc.cell? ⟨gb293,0,none⟩=some (Aa Ab 0):=(qm BK293.out 0).trans rfl;have hcz115_1:wc.cell? ⟨gb293,1,none⟩=some (Aa Ab 0):=(qm BK293.out 1).trans rfl;have hfz115_0:=qe BK293.out 0;have hfz115_1:=qe BK293.out 1;go_wp2;refine bodyPost_ret (results_cell_row rfl _ _ gb293 24 #[Aa Ab 0,Aa Ab (wrap64 (t302))] (0,0) _ rfl (zb BK293.out) AC rfl zm) rfl ?_;exact⟨zo,zp⟩
      ·rw [if_neg c82]at H;have c82b0:decide (t297<0)=false:=decide_eq_false c82;clear c82;simp only [Ay.injEq,AU]at H;obtain⟨rfl,rfl⟩:=H;have hnb116:=NB291_292.out;have hnc116:=NB292_291.out;have hnb117:=NB291_293.out;have hnc117:=NB293_291.out;have hnb118:=NB291_301.out;have hnc118:=NB301_291.out;have hcz119_0:wc.cell? ⟨gb291,0,none⟩=some (Aa Ab t294):=(qm BK291.out 0).trans rfl;have hcz119_1:wc.cell? ⟨gb291,1,none⟩=some (Aa Ab t295):=(qm BK291.out 1).trans rfl;have hfz119_0:=qe BK291.out 0;have hfz119_1:=qe BK291.out 1;have hnb120:=NB292_293.out;have hnc120:=NB293_292.out;have hnb121:=NB292_301.out;have hnc121:=NB301_292.out;have hcz122_0:wc.cell? ⟨gb292,0,none⟩=some (Aa Ab t296):=(qm BK292.out 0).trans rfl;have hcz122_1:wc.cell? ⟨gb292,1,none⟩=some (Aa Ab t297):=(qm BK292.out 1).trans rfl;have hfz122_0:=qe BK292.out 0;have hfz122_1:=qe BK292.out 1;have hnb123:=NB293_301.out;have hnc123:=NB301_293.out;have hcz124_0:wc.cell? ⟨gb293,0,none⟩=some (Aa Ab 0):=(qm BK293.out 0).trans rfl;have hcz124_1:wc.cell? ⟨gb293,1,none⟩=some (Aa Ab 0):=(qm BK293.out 1).trans rfl;have hfz124_0:=qe BK293.out 0;have hfz124_1:=qe BK293.out 1;go_wp2;refine bodyPost_ret (results_cell_row rfl _ _ gb293 24 #[Aa Ab 0,Aa Ab (wrap64 (t302))] (0,0) _ rfl (zb BK293.out) AC rfl zm) rfl ?_;exact⟨zo,zp⟩
     ·rw [if_neg c81]at H;have c81b0:decide (t295<0)=false:=decide_eq_false c81;clear c81;simp only [Ay.injEq,AU]at H;obtain⟨rfl,rfl⟩:=H;have hnb125:=NB291_292.out;have hnc125:=NB292_291.out;have hnb126:=NB291_293.out;have hnc126:=NB293_291.out;have hnb127:=NB291_301.out;have hnc127:=NB301_291.out;have hcz128_0:wc.cell? ⟨gb291,0,none⟩=some (Aa Ab t294):=(qm BK291.out 0).trans rfl;have hcz128_1:wc.cell? ⟨gb291,1,none⟩=some (Aa Ab t295):=(qm BK291.out 1).trans rfl;have hfz128_0:=qe BK291.out 0;have hfz128_1:=qe BK291.out 1;have hnb129:=NB293_292.out;have hnc129:=NB292_293.out;have hnb130:=NB293_301.out;have hnc130:=NB301_293.out;have hcz131_0:wc.cell? ⟨gb293,0,none⟩=some (Aa Ab 0):=(qm BK293.out 0).trans rfl;have hcz131_1:wc.cell? ⟨gb293,1,none⟩=some (Aa Ab 0):=(qm BK293.out 1).trans rfl;have hfz131_0:=qe BK293.out 0;have hfz131_1:=qe BK293.out 1;go_wp2;refine bodyPost_ret (results_cell_row rfl _ _ gb293 24 #[Aa Ab 0,Aa Ab (wrap64 (t302))] (0,0) _ rfl (zb BK293.out) AC rfl zm) rfl ?_;exact⟨zo,zp⟩
def dec_none.f (a0_0:Int) (a0_1:Int) (a1_0:Int) (a1_1:Int):Option (Bool):=if a0_0=1 then(some true)else(some (a1_0 == 1))
theorem dec_none.calls (a0_0:Int) (a0_1:Int) (a1_0:Int) (a1_1:Int) (r:Bool) (w:World) (h:dec_none.f a0_0 a0_1 a1_0 a1_1=some r) :
  Calls Aj 163 #[.agg #[Aa Ab a0_0,Aa Ab a0_1],.agg #[Aa Ab a1_0,Aa Ab a1_1]] w fun e w'=>e= .returned (Ae r)∧Below w.heap.size w w':=by
 have hu24:=AC;have HB:=Aside0.mk (Ao w.heap.size w);have H:(if a0_0=1 then(some true)else(some (a1_0 == 1)))=some r:=h;clear h;by_cases c3:a0_0=1
 ·rw [if_pos c3]at H;have c3b0:(a0_0 == 1)=true:=beq_iff_eq.mpr c3;have c3b1:(a0_0 !=1)=false:=bne_eq_false_iff_eq.mpr c3;clear c3;obtain rfl:=Ay.inj H;go_enter Tryz.func163,Tryz.ntmps163
  go_wp2_with (first | ((with_reducible refine qc1 (N:=2) rfl ?_);refine qa1 ?hg (N:=2) ?hd (cs:= #[Aa Ab a0_0,Aa Ab a0_1]) (t:=24) ?hr ?_;(case hd=>rfl);(case hg=>rfl);(case hr=>first | (go_simp;done) | (go_simp;rfl));intro gb310 hg w4 hbox hb;have BK310:=Aside0.mk (hbox);have GW310:=Aside0.mk ((by rw [hg];exact(qu zj):w.heap.size≤gb310));have GE310:=Aside0.mk ((by rw [hg];exact(qu zj):w.heap.size≤gb310));replace HB:=Aside0.mk (qw zj hb);clear hb hbox hg) | ((with_reducible refine qc1 (N:=3) rfl ?_);refine qa1 ?hg (N:=3) ?hd (cs:= #[Aa Ab a1_0,Aa Ab a1_1]) (t:=24) ?hr ?_;(case hd=>rfl);(case hg=>rfl);(case hr=>first | (go_simp;done) | (go_simp;rfl));intro gb311 hg w5 hbox hb;have BK311:=Aside0.mk (hbox);have GW311:=Aside0.mk ((by rw [hg];exact(qu zai):w.heap.size≤gb311));have GE311:=Aside0.mk ((by rw [hg];exact(qu zai):w.heap.size≤gb311));replace HB:=Aside0.mk (qw zai hb);have NB310_311:=Aside0.mk ((by rw [hg];exact Bg (ql1 (g:=gb310) (o:= .cells #[Aa Ab a0_0,Aa Ab a0_1] 24 (0,0)) (za BK310.out)):gb310≠gb311));have NB311_310:=Aside0.mk ((by rw [hg];exact Bc (ql1 (g:=gb310) (o:= .cells #[Aa Ab a0_0,Aa Ab a0_1] 24 (0,0)) (za BK310.out)):gb311≠gb310));replace BK310:=Aside0.mk (qn (g:=gb310) (o:= .cells #[Aa Ab a0_0,Aa Ab a0_1] 24 (0,0)) (za BK310.out) hb);clear hb hbox hg;have hnb6:=NB310_311.out;have hnc6:=NB311_310.out;have hcz7_0:w5.cell? ⟨gb310,0,none⟩=some (Aa Ab a0_0):=(qm BK310.out 0).trans rfl;have hcz7_1:w5.cell? ⟨gb310,1,none⟩=some (Aa Ab a0_1):=(qm BK310.out 1).trans rfl;have hfz7_0:=qe BK310.out 0;have hfz7_1:=qe BK310.out 1))
  go_ret;exact⟨zo,zba⟩
 ·rw [if_neg c3]at H;have c3b0:(a0_0 == 1)=false:=beq_eq_false_iff_ne.mpr c3;have c3b1:(a0_0 !=1)=true:=bne_iff_ne.mpr c3;obtain rfl:=Ay.inj H;go_enter Tryz.func163,Tryz.ntmps163
  go_wp2_with (first | ((with_reducible refine qc1 (N:=2) rfl ?_);refine qa1 ?hg (N:=2) ?hd (cs:= #[Aa Ab a0_0,Aa Ab a0_1]) (t:=24) ?hr ?_;(case hd=>rfl);(case hg=>rfl);(case hr=>first | (go_simp;done) | (go_simp;rfl));intro gb310 hg w8 hbox hb;have BK310:=Aside0.mk (hbox);have GW310:=Aside0.mk ((by rw [hg];exact(qu zj):w.heap.size≤gb310));have GE310:=Aside0.mk ((by rw [hg];exact(qu zj):w.heap.size≤gb310));replace HB:=Aside0.mk (qw zj hb);clear hb hbox hg) | ((with_reducible refine qc1 (N:=3) rfl ?_);refine qa1 ?hg (N:=3) ?hd (cs:= #[Aa Ab a1_0,Aa Ab a1_1]) (t:=24) ?hr ?_;(case hd=>rfl);(case hg=>rfl);(case hr=>first | (go_simp;done) | (go_simp;rfl));intro gb311 hg w9 hbox hb;have BK311:=Aside0.mk (hbox);have GW311:=Aside0.mk ((by rw [hg];exact(qu zai):w.heap.size≤gb311));have GE311:=Aside0.mk ((by rw [hg];exact(qu zai):w.heap.size≤gb311));replace HB:=Aside0.mk (qw zai hb);have NB310_311:=Aside0.mk ((by rw [hg];exact Bg (ql1 (g:=gb310) (o:= .cells #[Aa Ab a0_0,Aa Ab a0_1] 24 (0,0)) (za BK310.out)):gb310≠gb311));have NB311_310:=Aside0.mk ((by rw [hg];exact Bc (ql1 (g:=gb310) (o:= .cells #[Aa Ab a0_0,Aa Ab a0_1] 24 (0,0)) (za BK310.out)):gb311≠gb310));replace BK310:=Aside0.mk (qn (g:=gb310) (o:= .cells #[Aa Ab a0_0,Aa Ab a0_1] 24 (0,0)) (za BK310.out) hb);clear hb hbox hg;have hnb10:=NB310_311.out;have hnc10:=NB311_310.out;have hcz11_0:w9.cell? ⟨gb310,0,none⟩=some (Aa Ab a0_0):=(qm BK310.out 0).trans rfl;have hcz11_1:w9.cell? ⟨gb310,1,none⟩=some (Aa Ab a0_1):=(qm BK310.out 1).trans rfl;have hfz11_0:=qe BK310.out 0;have hfz11_1:=qe BK310.out 1;have hcz12_0:w9.cell? ⟨gb311,0,none⟩=some (Aa Ab a1_0):=(qm BK311.out 0).trans rfl;have hcz12_1:w9.cell? ⟨gb311,1,none⟩=some (Aa Ab a1_1):=(qm BK311.out 1).trans rfl;have hfz12_0:=qe BK311.out 0;have hfz12_1:=qe BK311.out 1))
  go_ret;exact⟨zo,zba⟩
def dec_great.f (s:Int):Option (Int × Int):=if s= -1 then some (3,0)else if s=0 then some (1,0)else if s=1 then some (2,0)else none
theorem dec_great.calls (s:Int) (r1 r2:Int) (w:World) (h:dec_great.f s=some (r1,r2)) :
  Calls Aj 165 #[Aa Ab s] w fun e w'=>e= .returned (.agg #[Aa Ab r1,Aa Ab r2])∧Below w.heap.size w w':=by
 have i0:∀ w,(Instr.index 222 (.agg #[Aa Ab 3,Aa Ab 0,Aa Ab 1,Aa Ab 0,Aa Ab 2,Aa Ab 0]) (Aa Ab 0)).run Aj w= .ok (.agg #[Aa Ab 3,Aa Ab 0]) w:=fun _=>by kernel_rfl
 have i1:∀ w,(Instr.index 222 (.agg #[Aa Ab 3,Aa Ab 0,Aa Ab 1,Aa Ab 0,Aa Ab 2,Aa Ab 0]) (Aa Ab 1)).run Aj w= .ok (.agg #[Aa Ab 1,Aa Ab 0]) w:=fun _=>by kernel_rfl
 have i2:∀ w,(Instr.index 222 (.agg #[Aa Ab 3,Aa Ab 0,Aa Ab 1,Aa Ab 0,Aa Ab 2,Aa Ab 0]) (Aa Ab 2)).run Aj w= .ok (.agg #[Aa Ab 2,Aa Ab 0]) w:=fun _=>by kernel_rfl
 have key:(s= -1∧r1=3∧r2=0)∨(s=0∧r1=1∧r2=0)∨(s=1∧r1=2∧r2=0):=by
  unfold dec_great.f at h;by_cases h1:s= -1
  ·simp [h1]at h;exact .inl ⟨h1,h.1.symm,h.2.symm⟩
  ·by_cases h2:s=0
   ·simp [h2]at h;exact .inr (.inl ⟨h2,h.1.symm,h.2.symm⟩)
   ·by_cases h3:s=1
    ·simp [h3]at h;exact .inr (.inr ⟨h3,h.1.symm,h.2.symm⟩)
    ·simp [h1,h2,h3]at h
 clear h;have hr0:=Ao w.heap.size w
 rcases key with ⟨rfl,rfl,rfl⟩ | ⟨rfl,rfl,rfl⟩ | ⟨rfl,rfl,rfl⟩
 all_goals
  go_enter Tryz.func165,Tryz.ntmps165;go_wp2_with fail
  refine(dec_under.calls 3 0 _ rfl).mono ?_;rintro e w1 ⟨rfl,hb1⟩;go_wp2_with fail
  refine(dec_nan.calls 1 0 _ rfl).mono ?_;rintro e w2 ⟨rfl,hb2⟩;go_wp2_with fail
  refine(dec_over.calls 2 0 _ rfl).mono ?_;rintro e w3 ⟨rfl,hb3⟩;have hb:=(hb1.trans (hb2.mono hb1.size)).trans (hb3.mono (Nat.le_trans hb1.size hb2.size));have hk:w3.heap[w.heap.size]?=some (.cells #[Aa Ab 0,Aa Ab 0] 24 (0,0)):=qn (qr w _) hb;have hB:=(qg hr0 (.cells #[Aa Ab 0,Aa Ab 0] 24)).trans (hb.mono (by simp));clear hb1 hb2 hb3 hb;have hc0:w3.cell? ⟨w.heap.size,0,none⟩=some (Aa Ab 0):=qm hk 0;have hc1:w3.cell? ⟨w.heap.size,1,none⟩=some (Aa Ab 0):=qm hk 1;have hf0:=qe hk 0;have hf1:=qe hk 1;have hB':=Aside0.mk hB;have hk':=Aside0.mk hk;clear hB hk hr0;go_wp2_with fail
  refine bodyPost_ret (results_cell_row rfl _ _ w.heap.size 24 _ (0,0) _ rfl (qk6 (qk6 hk'.out 0 _) 1 _) AC rfl zm) rfl ⟨rfl,?_⟩;exact(hB'.out.setCell (p:=⟨w.heap.size,0,none⟩) (Ag _) _).setCell (p:=⟨w.heap.size,1,none⟩) (Ag _) _
end Go.Proofs.YtocdckniokhbbaaGreatDoor.PF
