import Derived.Test.YtocdckniokhbbaaGreatDoorZrZz
import Derived.Test.YtocdckniokhbbaaGreatDoorZrLexJ
import Derived.StillTailTactics
import Derived.BigRegion
set_option linter.unusedVariables false
set_option linter.unusedSimpArgs false
set_option linter.unusedSectionVars false
open Go.Value renaming bool→Ae,string→Ac,slice→Ad,int→Aa
open Go.Proofs.Tryz renaming prog→Am,ntmps46→Bz,func46→BI
open Go.Obj renaming cells→Af
open List renaming length_append→Aq,takeWhile_cons→Bj,dropWhile_cons→Bk,cons_append→AJ,append_assoc→A9,drop_eq_getElem_cons→AQ,length_cons→AE
open Go.Lib renaming frozen_of_heap→Bb
open Nat renaming le_of_lt→Ah
open Go.RowKit.Below renaming refl→Ao
open Bool renaming false_eq_true→AR,and_eq_true→AK
open Go.IntKind renaming i64→Ab
open Option renaming some→Az
set_option maxHeartbeats 16000000
set_option maxRecDepth 100000
namespace Go.Proofs.YtocdckniokhbbaaGreatDoor.LexK
open Go.RowKit Go.Shelf YtocdckniokhbbaaGreatDoorW.PrintWords YtocdckniokhbbaaGreatDoorW.PrintLast YtocdckniokhbbaaGreatDoorW.PrintMore CharA CharB CharD CharF SpanA FigA FigC FigD FigG FigH FigI LexA LexF LexG LexH
theorem qn18 (b B:Nat) (s t:ByteArray) (c:UInt8) (l:List Wd) (w:World) (h:LB b B s l false w) (hs:s.size≤1000000000) (hd:Head s c t) (h0:dgN s=0) (hc:¬ c=46) :
  Calls Am 46 #[qn1 b] w fun e w'=>e= .returned (Ae false)∧w=w':=by
 have hg:=qj2 s w hs;rw [h0]at hg;obtain⟨v,h1,_⟩:=h;have c0:w.cell? ⟨b,0,none⟩=some (Ac s):=by rw [qu h1];rfl
 have hp:=hd.pos;have q1:(((s[0]'hp).toNat:Int) !=46)=true:=by rw [hd.at0,bne_iff_ne];intro q;exact hc ((u8i c 46 (by omega)).1 q)
 clear hd h1 hc h0;unfold qn1;go_enter BI,Bz;go_wp2_with fail
 refine hg.mono ?_;rintro e w1 ⟨rfl,rfl⟩;go_wp2_with fail
 go_ret;exact⟨rfl,rfl⟩
theorem qm18 (b B m:Nat) (s t:ByteArray) (c:UInt8) (l:List Wd) (w:World) (h:LB b B s l false w) (hs:s.size≤1000000000) (hd:Head s c t) (h0:dgN s=0) (hc:c=46) (hm:dgN t=m) (hm0:m=0) :
  Calls Am 46 #[qn1 b] w fun e w'=>e= .returned (Ae false)∧w=w':=by
 have hg:=qj2 s w hs;have hus:=hd.size;have hg3:=qj2 t w (by omega);rw [h0]at hg;rw [hm]at hg3;have c0:w.cell? ⟨b,0,none⟩=some (Ac s):=by obtain⟨v,h1,_⟩:=h;rw [qu h1];rfl
 have hp:=hd.pos;have x2:=hd.rest;have x3:(1:Int)≤(s.size:Int):=by omega
 have q1:(((s[0]'hp).toNat:Int) !=46)=false:=by rw [hd.at0,hc];rfl
 have n0:(m == 0)=true:=by simpa using hm0
 clear hd h hc h0 hm hm0 hus;unfold qn1;go_enter BI,Bz;go_wp2_with fail
 refine hg.mono ?_;rintro e w1 ⟨rfl,rfl⟩;go_wp2_with fail
 refine hg3.mono ?_;rintro e w1 ⟨rfl,rfl⟩;go_wp2_with fail
 go_ret;exact⟨rfl,rfl⟩
def qf23 (b B:Nat) (s:ByteArray) (l:List Wd) (z y:List UInt8) (w':World):Prop:=
 if(qf8 z).2=true∧(qf8 z).1.1=0 then LB b B (ba y) (l ++ [(9,z,(qf8 z).1)]) false w' else LB b B s l true w'
theorem qc13 {W:World} {b B:Nat} {s:ByteArray} {l:List Wd} {x:Wd} (h:LB b B s (l ++ [x]) false W):∃ g cap,W.heap[b]?=some (Af #[Ac s,Ad (some ⟨g,0,none⟩) (l.length+1) cap,Ae false] 90 (0,0))∧W.ownsRow B 93 4 (Ad (some ⟨g,0,none⟩) (l.length+1) cap) (l.length+1) (wcs (l ++ [x]))∧(∀ j,W.frozen? ⟨g,j,none⟩=false):=by
 obtain⟨v,h1,h2⟩:=h;rw [Aq]at h2;obtain⟨g,cap,rfl⟩:=qg2 h2;refine⟨g,cap,h1,h2,fun j=>?_⟩
 rcases h2.2 with ⟨h0,_⟩ | ⟨g',cap',cur,hv,hB,hg,_⟩
 ·cases h0
 ·cases hv
  exact Bb hg j
theorem qc21 (b B n:Nat) (s:ByteArray) (c:UInt8) (l:List Wd) (w:World) (h:LB b B s l false w) (hb:b<B) (hB:B≤w.heap.size) (hl:l.length≤1000) (hs:s.size≤1000000000) (h0:dgN s=n) (hn:0<n) (hq:¬ n<s.size) (z y:List UInt8) (hz:s.extract 0 n=ba z) (hy:s.extract n s.size=ba y) :
  Calls Am 46 #[qn1 b] w fun e w'=>e= .returned (Ae true)∧qf23 b B s l z y w'∧Fr b B w w':=by
 have hg:=qj2 s w hs;have hle:=qk17 s;rw [h0]at hg hle;have n0:(n == 0)=false:=by simp;omega
 have n1:(0:Int)≤(n:Int):=by omega
 have n2:(n:Int)≤(s.size:Int):=by omega
 have n3:decide (n<s.size)=false:=by simpa using hq
 have hzs:(ba z).size≤1000000000:=by rw [← hz];simp;omega
 have cl:=qb9 (ba z) w hzs;rw [qa1]at cl;have HF2:Aside0 (∀ W,Below w.heap.size w W→Fr b B w W):=⟨fun W hW=>Fr.of_below hW hB (Ah hb)⟩;have HC:Aside0 (∀ W,Below w.heap.size w W→W.cell? ⟨b,0,none⟩=some (Ac s)):=⟨fun W hW=>zbo⟩;have HN:Aside0 (∀ W,Below w.heap.size w W→W.heap.size≠b):=⟨fun W hW=>by have:=hW.size;have:=h.lt;omega⟩;have hf:∀ W,Below w.heap.size w W→_:=fun W hW=>qs3 b B s l W (h.below hW) hb;have hy2:∀ W,Below w.heap.size w W→_:=fun W hW=>Aside0.mk (qz6 b B s l 9 (ba z) (ba y) W.drew (h.below hW).drew hb (Nat.le_trans hB hW.size) hl);have c0:w.cell? ⟨b,0,none⟩=some (Ac s):=HC.out w (Ao _ _);have HL:=Aside0.mk hf;have HY:=Aside0.mk hy2;clear h hzs hf hy2 h0 hq hle;unfold qf23;rw [qa1]at HY;generalize qf8 z=q at *;obtain⟨⟨d1,d2⟩,is⟩:=q;unfold qn1 at HL HY ⊢;simp only at cl ⊢
 cases is with
 | false=>
  simp only [AR,false_and,if_false];clear HY HC HN;go_enter BI,Bz;go_wp2_with fail
  refine hg.mono ?_;rintro e w2 ⟨rfl,rfl⟩;go_wp2_with fail
  refine cl.mono ?_;rintro e w2 ⟨rfl,b2⟩;have b3:=b2.alloc b2.size (Af #[Aa Ab d1,Aa Ab d2] 24);have hL:=HL.out _ b3;have F1:=Aside0.mk (HF2.out _ b3);clear b2 b3;go_wp2_with fail
  refine hL.mono ?_;rintro e w3 ⟨rfl,h2,f2⟩;go_wp2_with fail
  go_ret;exact⟨rfl,h2,F1.out.trans f2⟩
 | true=>
  by_cases hd1:d1=0
  ·subst hd1;simp only [true_and,if_true];clear HL;go_enter BI,Bz;go_wp2_with fail
   refine hg.mono ?_;rintro e w2 ⟨rfl,rfl⟩;go_wp2_with fail
   refine cl.mono ?_;rintro e w2 ⟨rfl,b2⟩;have b3:=b2.alloc b2.size (Af #[Aa Ab 0,Aa Ab d2] 24);have X3:=qw3 0 d2 w2;have y0:=X3.c0;have c3:=HC.out _ b3;have F1:=Aside0.mk (HF2.out _ b3);have hY:=HY.out _ b3;have hnb:=HN.out w2 b2;have HX:=Aside0.mk X3;have HNB:=Aside0.mk hnb;clear b2 b3 X3 hnb;go_wp2_with fail
   generalize w2.alloc (Af #[Aa Ab 0,Aa Ab d2] 24)=w3 at *;refine wp_region_still_tail 13 zr zr ?_;simp only [List.take_succ_cons,List.take_zero,List.drop_succ_cons,List.drop_zero]
   change wpStill _ _ w3.drew _ _ _
   repeat still_step
   refine wpStill_nil ?_
   change wpList _ _ _ _ _ w3.drew
   have hY:=hY.out;go_wp2_with fail
   refine hY.mono ?_;rintro e w4 ⟨rfl,h4,f4,o4⟩;have X4:Box w2.heap.size 0 d2 w4:=o4 _ _ _ HX.out (by decide) HNB.out;obtain⟨g,cap,k1,k2,k3⟩:=qc13 h4;have a1:w4.cell? ⟨b,1,none⟩=some (Ad (some ⟨g,0,none⟩) (l.length+1) cap):=by rw [qu k1];rfl
   have z0:=X4.c0;have z1:=X4.c1;have r2:w4.cell? ⟨g,l.length*4+2,none⟩=some (Aa Ab 0):=qu2 k2 2 _ rfl;have r3:w4.cell? ⟨g,l.length*4+3,none⟩=some (Aa Ab 0):=qu2 k2 3 _ rfl;have p2:=k3 (l.length*4+2);have p3:=k3 (l.length*4+3);have HL5:=Aside0.mk (LB.put_n hb 0 d2 k1 k2);have hgB:=(k2.lt g rfl).1;have HF5:=Aside0.mk (((F1.out.drew.trans f4).set (.inr hgB) (Ah hb) (l.length*4+2) (Aa Ab 0)).set (.inr hgB) (Ah hb) (l.length*4+3) (Aa Ab d2));clear k1 k2 k3 h4 f4 o4 X4 hY y0 c3 hgB;go_wp2_with fail
   go_region;go_wp2_with fail
   go_ret;exact⟨rfl,HL5.out.drew,HF5.out.drew⟩
  ·have hne:(d1 !=0)=true:=by simpa using hd1
   simp only [true_and,hd1,if_false];clear HY HC HN hd1;go_enter BI,Bz;go_wp2_with fail
   refine hg.mono ?_;rintro e w2 ⟨rfl,rfl⟩;go_wp2_with fail
   refine cl.mono ?_;rintro e w2 ⟨rfl,b2⟩;have b3:=b2.alloc b2.size (Af #[Aa Ab d1,Aa Ab d2] 24);have X3:=qw3 d1 d2 w2;have y0:=X3.c0;have y1:=X3.c1;clear X3;have hL:=HL.out _ b3;have F1:=Aside0.mk (HF2.out _ b3);clear b2 b3;go_wp2_with fail
   refine hL.mono ?_;rintro e w3 ⟨rfl,h2,f2⟩;go_wp2_with fail
   go_ret;exact⟨rfl,h2,F1.out.trans f2⟩
theorem qd21 (b B n:Nat) (s:ByteArray) (c:UInt8) (l:List Wd) (w:World) (h:LB b B s l false w) (hb:b<B) (hB:B≤w.heap.size) (hl:l.length≤1000) (hs:s.size≤1000000000) (h0:dgN s=n) (hn:0<n) (hq:n<s.size) (hne:¬ (s[n]'hq)=46) (z y:List UInt8) (hz:s.extract 0 n=ba z) (hy:s.extract n s.size=ba y) :
  Calls Am 46 #[qn1 b] w fun e w'=>e= .returned (Ae true)∧qf23 b B s l z y w'∧Fr b B w w':=by
 have hg:=qj2 s w hs;rw [h0]at hg;have n0:(n == 0)=false:=by simp;omega
 have n1:(0:Int)≤(n:Int):=by omega
 have n2:(n:Int)≤(s.size:Int):=by omega
 have n4:(((s[n]'hq).toNat:Int) == 46)=false:=by rw [beq_eq_false_iff_ne];intro q;exact hne ((u8i _ 46 (by omega)).1 q)
 have hzs:(ba z).size≤1000000000:=by rw [← hz];simp;omega
 have cl:=qb9 (ba z) w hzs;rw [qa1]at cl;have HF2:Aside0 (∀ W,Below w.heap.size w W→Fr b B w W):=⟨fun W hW=>Fr.of_below hW hB (Ah hb)⟩;have HC:Aside0 (∀ W,Below w.heap.size w W→W.cell? ⟨b,0,none⟩=some (Ac s)):=⟨fun W hW=>zbo⟩;have HN:Aside0 (∀ W,Below w.heap.size w W→W.heap.size≠b):=⟨fun W hW=>by have:=hW.size;have:=h.lt;omega⟩;have hf:∀ W,Below w.heap.size w W→_:=fun W hW=>qs3 b B s l W (h.below hW) hb;have hy2:∀ W,Below w.heap.size w W→_:=fun W hW=>Aside0.mk (qz6 b B s l 9 (ba z) (ba y) W.drew (h.below hW).drew hb (Nat.le_trans hB hW.size) hl);have c0:w.cell? ⟨b,0,none⟩=some (Ac s):=HC.out w (Ao _ _);have HL:=Aside0.mk hf;have HY:=Aside0.mk hy2;clear h hzs hf hy2 h0 hne;unfold qf23;rw [qa1]at HY;generalize qf8 z=q at *;obtain⟨⟨d1,d2⟩,is⟩:=q;unfold qn1 at HL HY ⊢;simp only at cl ⊢
 cases is with
 | false=>
  simp only [AR,false_and,if_false];clear HY HC HN;go_enter BI,Bz;go_wp2_with fail
  refine hg.mono ?_;rintro e w2 ⟨rfl,rfl⟩;go_wp2_with fail
  refine cl.mono ?_;rintro e w2 ⟨rfl,b2⟩;have b3:=b2.alloc b2.size (Af #[Aa Ab d1,Aa Ab d2] 24);have hL:=HL.out _ b3;have F1:=Aside0.mk (HF2.out _ b3);clear b2 b3;go_wp2_with fail
  refine hL.mono ?_;rintro e w3 ⟨rfl,h2,f2⟩;go_wp2_with fail
  go_ret;exact⟨rfl,h2,F1.out.trans f2⟩
 | true=>
  by_cases hd1:d1=0
  ·subst hd1;simp only [true_and,if_true];clear HL;go_enter BI,Bz;go_wp2_with fail
   refine hg.mono ?_;rintro e w2 ⟨rfl,rfl⟩;go_wp2_with fail
   refine cl.mono ?_;rintro e w2 ⟨rfl,b2⟩;have b3:=b2.alloc b2.size (Af #[Aa Ab 0,Aa Ab d2] 24);have X3:=qw3 0 d2 w2;have y0:=X3.c0;have c3:=HC.out _ b3;have F1:=Aside0.mk (HF2.out _ b3);have hY:=HY.out _ b3;have hnb:=HN.out w2 b2;have HX:=Aside0.mk X3;have HNB:=Aside0.mk hnb;clear b2 b3 X3 hnb;go_wp2_with fail
   generalize w2.alloc (Af #[Aa Ab 0,Aa Ab d2] 24)=w3 at *;refine wp_region_still_tail 13 zr zr ?_;simp only [List.take_succ_cons,List.take_zero,List.drop_succ_cons,List.drop_zero]
   change wpStill _ _ w3.drew _ _ _
   repeat still_step
   refine wpStill_nil ?_
   change wpList _ _ _ _ _ w3.drew
   have hY:=hY.out;go_wp2_with fail
   refine hY.mono ?_;rintro e w4 ⟨rfl,h4,f4,o4⟩;have X4:Box w2.heap.size 0 d2 w4:=o4 _ _ _ HX.out (by decide) HNB.out;obtain⟨g,cap,k1,k2,k3⟩:=qc13 h4;have a1:w4.cell? ⟨b,1,none⟩=some (Ad (some ⟨g,0,none⟩) (l.length+1) cap):=by rw [qu k1];rfl
   have z0:=X4.c0;have z1:=X4.c1;have r2:w4.cell? ⟨g,l.length*4+2,none⟩=some (Aa Ab 0):=qu2 k2 2 _ rfl;have r3:w4.cell? ⟨g,l.length*4+3,none⟩=some (Aa Ab 0):=qu2 k2 3 _ rfl;have p2:=k3 (l.length*4+2);have p3:=k3 (l.length*4+3);have HL5:=Aside0.mk (LB.put_n hb 0 d2 k1 k2);have hgB:=(k2.lt g rfl).1;have HF5:=Aside0.mk (((F1.out.drew.trans f4).set (.inr hgB) (Ah hb) (l.length*4+2) (Aa Ab 0)).set (.inr hgB) (Ah hb) (l.length*4+3) (Aa Ab d2));clear k1 k2 k3 h4 f4 o4 X4 hY y0 c3 hgB;go_wp2_with fail
   go_region;go_wp2_with fail
   go_ret;exact⟨rfl,HL5.out.drew,HF5.out.drew⟩
  ·have hne:(d1 !=0)=true:=by simpa using hd1
   simp only [true_and,hd1,if_false];clear HY HC HN hd1;go_enter BI,Bz;go_wp2_with fail
   refine hg.mono ?_;rintro e w2 ⟨rfl,rfl⟩;go_wp2_with fail
   refine cl.mono ?_;rintro e w2 ⟨rfl,b2⟩;have b3:=b2.alloc b2.size (Af #[Aa Ab d1,Aa Ab d2] 24);have X3:=qw3 d1 d2 w2;have y0:=X3.c0;have y1:=X3.c1;clear X3;have hL:=HL.out _ b3;have F1:=Aside0.mk (HF2.out _ b3);clear b2 b3;go_wp2_with fail
   refine hL.mono ?_;rintro e w3 ⟨rfl,h2,f2⟩;go_wp2_with fail
   go_ret;exact⟨rfl,h2,F1.out.trans f2⟩
theorem qw24 (b B n m:Nat) (s u:ByteArray) (c:UInt8) (l:List Wd) (w:World) (h:LB b B s l false w) (hb:b<B) (hB:B≤w.heap.size) (hl:l.length≤1000) (hs:s.size≤1000000000) (h0:dgN s=n) (hn:0<n) (hq:n<s.size) (hne:(s[n]'hq)=46) (hu:s.extract (n+1) s.size=u) (hm:dgN u=m) (z y:List UInt8) (hz:s.extract 0 (n+(1+m))=ba z) (hy:s.extract (n+(1+m)) s.size=ba y) :
  Calls Am 46 #[qn1 b] w fun e w'=>e= .returned (Ae true)∧qf23 b B s l z y w'∧Fr b B w w':=by
 have hg:=qj2 s w hs;rw [h0]at hg;have hus:u.size=s.size - (n+1):=by rw [← hu];simp
 have hg3:=qj2 u w (by omega);have hmu:=qk17 u;rw [hm]at hg3 hmu;have n0:(n == 0)=false:=by simp;omega
 have n1:(0:Int)≤(n:Int):=by omega
 have n2:(n:Int)+1≤(s.size:Int):=by omega
 have n3:(n:Int)+(1+(m:Int))≤(s.size:Int):=by omega
 have n5:m≤1000000000:=by omega
 have n6:(0:Int)≤(n:Int)+(1+(m:Int)):=by omega
 have n7:((n:Int)+(1+(m:Int))).toNat=n+(1+m):=by omega
 have n4:(((s[n]'hq).toNat:Int) == 46)=true:=by rw [beq_iff_eq];exact(u8i _ 46 (by omega)).2 hne
 have hzs:(ba z).size≤1000000000:=by rw [← hz];simp;omega
 have cl:=qb9 (ba z) w hzs;rw [qa1]at cl;have HF2:Aside0 (∀ W,Below w.heap.size w W→Fr b B w W):=⟨fun W hW=>Fr.of_below hW hB (Ah hb)⟩;have HC:Aside0 (∀ W,Below w.heap.size w W→W.cell? ⟨b,0,none⟩=some (Ac s)):=⟨fun W hW=>zbo⟩;have HN:Aside0 (∀ W,Below w.heap.size w W→W.heap.size≠b):=⟨fun W hW=>by have:=hW.size;have:=h.lt;omega⟩;have hf:∀ W,Below w.heap.size w W→_:=fun W hW=>qs3 b B s l W (h.below hW) hb;have hy2:∀ W,Below w.heap.size w W→_:=fun W hW=>Aside0.mk (qz6 b B s l 9 (ba z) (ba y) W.drew (h.below hW).drew hb (Nat.le_trans hB hW.size) hl);have c0:w.cell? ⟨b,0,none⟩=some (Ac s):=HC.out w (Ao _ _);have HL:=Aside0.mk hf;have HY:=Aside0.mk hy2;clear h hzs hf hy2 h0 hne hm hus hmu;unfold qf23;rw [qa1]at HY;generalize qf8 z=q at *;obtain⟨⟨d1,d2⟩,is⟩:=q;unfold qn1 at HL HY ⊢;simp only at cl ⊢
 cases is with
 | false=>
  simp only [AR,false_and,if_false];clear HY HC HN;go_enter BI,Bz;go_wp2_with fail
  refine hg.mono ?_;rintro e w2 ⟨rfl,rfl⟩;go_wp2_with fail
  refine hg3.mono ?_;rintro e w2 ⟨rfl,rfl⟩;go_wp2_with fail
  refine cl.mono ?_;rintro e w2 ⟨rfl,b2⟩;have b3:=b2.alloc b2.size (Af #[Aa Ab d1,Aa Ab d2] 24);have hL:=HL.out _ b3;have F1:=Aside0.mk (HF2.out _ b3);clear b2 b3;go_wp2_with fail
  refine hL.mono ?_;rintro e w3 ⟨rfl,h2,f2⟩;go_wp2_with fail
  go_ret;exact⟨rfl,h2,F1.out.trans f2⟩
 | true=>
  by_cases hd1:d1=0
  ·subst hd1;simp only [true_and,if_true];clear HL;go_enter BI,Bz;go_wp2_with fail
   refine hg.mono ?_;rintro e w2 ⟨rfl,rfl⟩;go_wp2_with fail
   refine hg3.mono ?_;rintro e w2 ⟨rfl,rfl⟩;go_wp2_with fail
   refine cl.mono ?_;rintro e w2 ⟨rfl,b2⟩;have b3:=b2.alloc b2.size (Af #[Aa Ab 0,Aa Ab d2] 24);have X3:=qw3 0 d2 w2;have y0:=X3.c0;have c3:=HC.out _ b3;have F1:=Aside0.mk (HF2.out _ b3);have hY:=HY.out _ b3;have hnb:=HN.out w2 b2;have HX:=Aside0.mk X3;have HNB:=Aside0.mk hnb;clear b2 b3 X3 hnb;go_wp2_with fail
   generalize w2.alloc (Af #[Aa Ab 0,Aa Ab d2] 24)=w3 at *;refine wp_region_still_tail 13 zr zr ?_;simp only [List.take_succ_cons,List.take_zero,List.drop_succ_cons,List.drop_zero]
   change wpStill _ _ w3.drew _ _ _
   repeat still_step
   refine wpStill_nil ?_
   change wpList _ _ _ _ _ w3.drew
   have hY:=hY.out;go_wp2_with fail
   refine hY.mono ?_;rintro e w4 ⟨rfl,h4,f4,o4⟩;have X4:Box w2.heap.size 0 d2 w4:=o4 _ _ _ HX.out (by decide) HNB.out;obtain⟨g,cap,k1,k2,k3⟩:=qc13 h4;have a1:w4.cell? ⟨b,1,none⟩=some (Ad (some ⟨g,0,none⟩) (l.length+1) cap):=by rw [qu k1];rfl
   have z0:=X4.c0;have z1:=X4.c1;have r2:w4.cell? ⟨g,l.length*4+2,none⟩=some (Aa Ab 0):=qu2 k2 2 _ rfl;have r3:w4.cell? ⟨g,l.length*4+3,none⟩=some (Aa Ab 0):=qu2 k2 3 _ rfl;have p2:=k3 (l.length*4+2);have p3:=k3 (l.length*4+3);have HL5:=Aside0.mk (LB.put_n hb 0 d2 k1 k2);have hgB:=(k2.lt g rfl).1;have HF5:=Aside0.mk (((F1.out.drew.trans f4).set (.inr hgB) (Ah hb) (l.length*4+2) (Aa Ab 0)).set (.inr hgB) (Ah hb) (l.length*4+3) (Aa Ab d2));clear k1 k2 k3 h4 f4 o4 X4 hY y0 c3 hgB;go_wp2_with fail
   go_region;go_wp2_with fail
   go_ret;exact⟨rfl,HL5.out.drew,HF5.out.drew⟩
  ·have hne:(d1 !=0)=true:=by simpa using hd1
   simp only [true_and,hd1,if_false];clear HY HC HN hd1;go_enter BI,Bz;go_wp2_with fail
   refine hg.mono ?_;rintro e w2 ⟨rfl,rfl⟩;go_wp2_with fail
   refine hg3.mono ?_;rintro e w2 ⟨rfl,rfl⟩;go_wp2_with fail
   refine cl.mono ?_;rintro e w2 ⟨rfl,b2⟩;have b3:=b2.alloc b2.size (Af #[Aa Ab d1,Aa Ab d2] 24);have X3:=qw3 d1 d2 w2;have y0:=X3.c0;have y1:=X3.c1;clear X3;have hL:=HL.out _ b3;have F1:=Aside0.mk (HF2.out _ b3);clear b2 b3;go_wp2_with fail
   refine hL.mono ?_;rintro e w3 ⟨rfl,h2,f2⟩;go_wp2_with fail
   go_ret;exact⟨rfl,h2,F1.out.trans f2⟩
theorem qx24 (b B n m:Nat) (s t:ByteArray) (c:UInt8) (l:List Wd) (w:World) (h:LB b B s l false w) (hb:b<B) (hB:B≤w.heap.size) (hl:l.length≤1000) (hs:s.size≤1000000000) (hd:Head s c t) (h0:dgN s=0) (hc:c=46) (hm:dgN t=m) (hm0:0<m) (z y:List UInt8) (hz:s.extract 0 (1+m)=ba z) (hy:s.extract (1+m) s.size=ba y) :
  Calls Am 46 #[qn1 b] w fun e w'=>e= .returned (Ae true)∧qf23 b B s l z y w'∧Fr b B w w':=by
 have hg:=qj2 s w hs;rw [h0]at hg;have hus:=hd.size;have hg3:=qj2 t w (by omega);have hmu:=qk17 t;rw [hm]at hg3 hmu;have hp:=hd.pos;have x2:=hd.rest;have x3:(1:Int)≤(s.size:Int):=by omega
 have q1:(((s[0]'hp).toNat:Int) !=46)=false:=by rw [hd.at0,hc];rfl
 have q2:(((s[0]'hp).toNat:Int) == 46)=true:=by rw [hd.at0,hc];rfl
 have n0:(m == 0)=false:=by simp;omega
 have n3:1+(m:Int)≤(s.size:Int):=by omega
 have n5:m≤1000000000:=by omega
 have n6:(0:Int)≤1+(m:Int):=by omega
 have n7:(1+(m:Int)).toNat=1+m:=by omega
 have hzs:(ba z).size≤1000000000:=by rw [← hz];simp;omega
 have cl:=qb9 (ba z) w hzs;rw [qa1]at cl;have HF2:Aside0 (∀ W,Below w.heap.size w W→Fr b B w W):=⟨fun W hW=>Fr.of_below hW hB (Ah hb)⟩;have HC:Aside0 (∀ W,Below w.heap.size w W→W.cell? ⟨b,0,none⟩=some (Ac s)):=⟨fun W hW=>zbo⟩;have HN:Aside0 (∀ W,Below w.heap.size w W→W.heap.size≠b):=⟨fun W hW=>by have:=hW.size;have:=h.lt;omega⟩;have hf:∀ W,Below w.heap.size w W→_:=fun W hW=>qs3 b B s l W (h.below hW) hb;have hy2:∀ W,Below w.heap.size w W→_:=fun W hW=>Aside0.mk (qz6 b B s l 9 (ba z) (ba y) W.drew (h.below hW).drew hb (Nat.le_trans hB hW.size) hl);have c0:w.cell? ⟨b,0,none⟩=some (Ac s):=HC.out w (Ao _ _);have HL:=Aside0.mk hf;have HY:=Aside0.mk hy2;clear h hzs hf hy2 h0 hc hm hus hmu hd;unfold qf23;rw [qa1]at HY;generalize qf8 z=q at *;obtain⟨⟨d1,d2⟩,is⟩:=q;unfold qn1 at HL HY ⊢;simp only at cl ⊢
 cases is with
 | false=>
  simp only [AR,false_and,if_false];clear HY HC HN;go_enter BI,Bz;go_wp2_with fail
  refine hg.mono ?_;rintro e w2 ⟨rfl,rfl⟩;go_wp2_with fail
  refine hg3.mono ?_;rintro e w2 ⟨rfl,rfl⟩;go_wp2_with fail
  refine hg3.mono ?_;rintro e w2 ⟨rfl,rfl⟩;go_wp2_with fail
  refine cl.mono ?_;rintro e w2 ⟨rfl,b2⟩;have b3:=b2.alloc b2.size (Af #[Aa Ab d1,Aa Ab d2] 24);have hL:=HL.out _ b3;have F1:=Aside0.mk (HF2.out _ b3);clear b2 b3;go_wp2_with fail
  refine hL.mono ?_;rintro e w3 ⟨rfl,h2,f2⟩;go_wp2_with fail
  go_ret;exact⟨rfl,h2,F1.out.trans f2⟩
 | true=>
  by_cases hd1:d1=0
  ·subst hd1;simp only [true_and,if_true];clear HL;go_enter BI,Bz;go_wp2_with fail
   refine hg.mono ?_;rintro e w2 ⟨rfl,rfl⟩;go_wp2_with fail
   refine hg3.mono ?_;rintro e w2 ⟨rfl,rfl⟩;go_wp2_with fail
   refine hg3.mono ?_;rintro e w2 ⟨rfl,rfl⟩;go_wp2_with fail
   refine cl.mono ?_;rintro e w2 ⟨rfl,b2⟩;have b3:=b2.alloc b2.size (Af #[Aa Ab 0,Aa Ab d2] 24);have X3:=qw3 0 d2 w2;have y0:=X3.c0;have c3:=HC.out _ b3;have F1:=Aside0.mk (HF2.out _ b3);have hY:=HY.out _ b3;have hnb:=HN.out w2 b2;have HX:=Aside0.mk X3;have HNB:=Aside0.mk hnb;clear b2 b3 X3 hnb;go_wp2_with fail
   generalize w2.alloc (Af #[Aa Ab 0,Aa Ab d2] 24)=w3 at *;refine wp_region_still_tail 13 zr zr ?_;simp only [List.take_succ_cons,List.take_zero,List.drop_succ_cons,List.drop_zero]
   change wpStill _ _ w3.drew _ _ _
   repeat still_step
   refine wpStill_nil ?_
   change wpList _ _ _ _ _ w3.drew
   have hY:=hY.out;go_wp2_with fail
   refine hY.mono ?_;rintro e w4 ⟨rfl,h4,f4,o4⟩;have X4:Box w2.heap.size 0 d2 w4:=o4 _ _ _ HX.out (by decide) HNB.out;obtain⟨g,cap,k1,k2,k3⟩:=qc13 h4;have a1:w4.cell? ⟨b,1,none⟩=some (Ad (some ⟨g,0,none⟩) (l.length+1) cap):=by rw [qu k1];rfl
   have z0:=X4.c0;have z1:=X4.c1;have r2:w4.cell? ⟨g,l.length*4+2,none⟩=some (Aa Ab 0):=qu2 k2 2 _ rfl;have r3:w4.cell? ⟨g,l.length*4+3,none⟩=some (Aa Ab 0):=qu2 k2 3 _ rfl;have p2:=k3 (l.length*4+2);have p3:=k3 (l.length*4+3);have HL5:=Aside0.mk (LB.put_n hb 0 d2 k1 k2);have hgB:=(k2.lt g rfl).1;have HF5:=Aside0.mk (((F1.out.drew.trans f4).set (.inr hgB) (Ah hb) (l.length*4+2) (Aa Ab 0)).set (.inr hgB) (Ah hb) (l.length*4+3) (Aa Ab d2));clear k1 k2 k3 h4 f4 o4 X4 hY y0 c3 hgB;go_wp2_with fail
   go_region;go_wp2_with fail
   go_ret;exact⟨rfl,HL5.out.drew,HF5.out.drew⟩
  ·have hne:(d1 !=0)=true:=by simpa using hd1
   simp only [true_and,hd1,if_false];clear HY HC HN hd1;go_enter BI,Bz;go_wp2_with fail
   refine hg.mono ?_;rintro e w2 ⟨rfl,rfl⟩;go_wp2_with fail
   refine hg3.mono ?_;rintro e w2 ⟨rfl,rfl⟩;go_wp2_with fail
   refine hg3.mono ?_;rintro e w2 ⟨rfl,rfl⟩;go_wp2_with fail
   refine cl.mono ?_;rintro e w2 ⟨rfl,b2⟩;have b3:=b2.alloc b2.size (Af #[Aa Ab d1,Aa Ab d2] 24);have X3:=qw3 d1 d2 w2;have y0:=X3.c0;have y1:=X3.c1;clear X3;have hL:=HL.out _ b3;have F1:=Aside0.mk (HF2.out _ b3);clear b2 b3;go_wp2_with fail
   refine hL.mono ?_;rintro e w3 ⟨rfl,h2,f2⟩;go_wp2_with fail
   go_ret;exact⟨rfl,h2,F1.out.trans f2⟩
end Go.Proofs.YtocdckniokhbbaaGreatDoor.LexK
namespace Go.Proofs.YtocdckniokhbbaaGreatDoor.LexL
open Go.RowKit Go.Shelf YtocdckniokhbbaaGreatDoorW.PrintWords YtocdckniokhbbaaGreatDoorW.PrintLast YtocdckniokhbbaaGreatDoorW.PrintMore CharA CharB CharD CharF SpanA FigA FigC FigD FigG FigH FigI LexA LexF LexG LexH LexI LexJ LexK
abbrev Way:=Option (Option (Wd × List UInt8))
def qj3:List Way→Option (Wd × List UInt8)
 | []=>none
 | none :: l=>qj3 l
 | some x :: _=>x
def way0 (c:UInt8) (t:List UInt8):Way:=if c=34∨c=39 then some (litW c t)else none
def way1 (s:List UInt8):Way:=if qr12 s=true then some (numW s)else none
def way2 (s:List UInt8):Way:=match qg1 marksL s with | some m=>some (some ((1,m,0,0),s.drop m.length)) | none=>match qg1 opsL s with | some m=>some (some ((5,m,0,0),s.drop m.length)) | none=>none
def way3 (c:UInt8) (t:List UInt8) (e:Bool):Way:=if c=42 then some (some ((if e=true then 5 else 3,[42],0,0),t))else none
def qi23 (c:UInt8) (t:List UInt8):Way:=if c=36 then some (varW t)else none
def qd23 (s:List UInt8) (e:Bool):Way:=if qa4 s= []then none else some (qx9 s e)
def qs8 (c:UInt8) (t:List UInt8) (e:Bool):List Way:=[way0 c t,way1 (c :: t),way2 (c :: t),way3 c t e,qi23 c t,qd23 (c :: t) e,some none]
theorem qv3 (l:List Way):qj3 (none :: l)=qj3 l:=rfl
theorem qi8 (x:Option (Wd × List UInt8)) (l:List Way):qj3 (some x :: l)=x:=rfl
theorem qb17 (c:UInt8) (t:List UInt8) (e:Bool):qa15 (c :: t) e=qj3 (qs8 c t e):=by
 have hn:qa4 (c :: t)= []→qx9 (c :: t) e=none:=by
  intro h;unfold qx9;rw [h,if_neg (by decide)]
 have h5:qj3 [qd23 (c :: t) e,some none]=qx9 (c :: t) e:=by
  unfold qd23;by_cases h:qa4 (c :: t)= []
  ·rw [if_pos h,qv3,qi8,hn h]
  ·rw [if_neg h,qi8]
 have h4:qj3 [qi23 c t,qd23 (c :: t) e,some none]=if c=36 then varW t else qx9 (c :: t) e:=by
  unfold qi23;by_cases h:c=36
  ·rw [if_pos h,if_pos h,qi8]
  ·rw [if_neg h,if_neg h,qv3];exact h5
 have h3:qj3 [way3 c t e,qi23 c t,qd23 (c :: t) e,some none]=if c=42 then some ((if e=true then 5 else 3,[42],0,0),t)else if c=36 then varW t else qx9 (c :: t) e:=by
  unfold way3;by_cases h:c=42
  ·rw [if_pos h,if_pos h,qi8]
  ·rw [if_neg h,if_neg h,qv3];exact h4
 unfold qs8;simp only [qa15];unfold way0;by_cases h0:c=34∨c=39
 ·rw [if_pos h0,if_pos h0,qi8]
 rw [if_neg h0,if_neg h0,qv3];unfold way1;by_cases h1:qr12 (c :: t)=true
 ·rw [if_pos h1,if_pos h1,qi8]
 rw [if_neg h1,if_neg h1,qv3];unfold way2
 cases qg1 marksL (c :: t)with
 | some m=>rfl
 | none=>
  cases qg1 opsL (c :: t)with
  | some m=>rfl
  | none=>simp only;rw [qv3];exact h3.symm
def WP (b B:Nat) (s:ByteArray) (l:List Wd) (w:World) (o:Way) (e:Ending) (w':World):Prop:=
 e= .returned (Ae o.isSome)∧Fr b B w w'∧(match o with | none=>LB b B s l false w' | some none=>LB b B s l true w' | some (some (v,r))=>LB b B (ba r) (l ++ [v]) false w')
theorem qq17 {b B:Nat} {s:ByteArray} {l:List Wd} {w:World} (h:LB b B s l false w) {f:FuncId} (hc:Calls Am f #[qn1 b] w fun e w'=>e= .returned (Ae false)∧w=w'):Calls Am f #[qn1 b] w (WP b B s l w none):=
 hc.mono fun e w' ⟨h1,h2⟩=>by subst h2;exact⟨h1,Fr.refl _ _ _,h⟩
theorem qg23 {b B:Nat} {s:ByteArray} {l:List Wd} {w:World} (h:LB b B s l false w) (hb:b<B) (hB:B≤w.heap.size) {f:FuncId} (hc:Calls Am f #[qn1 b] w fun e w'=>e= .returned (Ae false)∧Below w.heap.size w w'):Calls Am f #[qn1 b] w (WP b B s l w none):=
 hc.mono fun e w' ⟨h1,h2⟩=>⟨h1,Fr.of_below h2 hB (Ah hb),h.below h2⟩
theorem qm7 {b B:Nat} {s:ByteArray} {l:List Wd} {w:World} {f:FuncId} (hc:Calls Am f #[qn1 b] w fun e w'=>e= .returned (Ae true)∧LB b B s l true w'∧Fr b B w w'):Calls Am f #[qn1 b] w (WP b B s l w (some none)):=
 hc.mono fun e w' ⟨h1,h2,h3⟩=>⟨h1,h3,h2⟩
theorem qn8 {b B:Nat} {s:ByteArray} {l:List Wd} {w:World} {f:FuncId} {v:Wd} {r:List UInt8} (hc:Calls Am f #[qn1 b] w fun e w'=>e= .returned (Ae true)∧LB b B (ba r) (l ++ [v]) false w'∧Fr b B w w'):Calls Am f #[qn1 b] w (WP b B s l w (some (some (v,r)))):=
 hc.mono fun e w' ⟨h1,h2,h3⟩=>⟨h1,h3,h2⟩
section
variable (b B:Nat) (c:UInt8) (t:List UInt8) (l:List Wd) (w:World) (h:LB b B (ba (c :: t)) l false w) (hb:b<B) (hB:B≤w.heap.size) (hl:l.length≤1000) (hs:t.length≤1000) (hT:ql7 w)
include h hb hB hl hs hT
theorem qn19:Calls Am 45 #[qn1 b] w (WP b B (ba (c :: t)) l w (way0 c t)):=by
 unfold way0;by_cases h0:c=34∨c=39
 ·rw [if_pos h0];unfold litW
  cases hq:qf10 c t with
  | none=>exact qm7 (qm14 b B _ (ba t) c l w h hb (qy5 c t) h0 hq)
  | some q=>
   obtain⟨a,r⟩:=q;exact qn8 (qz15 b B _ (ba t) c a r l w h hb hB hl (by rw [qj1];simp;omega) (qy5 c t) h0 hq)
 ·rw [if_neg h0];exact qq17 h (qp18 b B _ (ba t) c l w h (qy5 c t) h0)
theorem ql19:Calls Am 47 #[qn1 b] w (WP b B (ba (c :: t)) l w (way2 (c :: t))):=by
 unfold way2
 cases hm:qg1 marksL (c :: t)with
 | some m=>exact qn8 (qi25 b B _ m l w h hb hB hl hm)
 | none=>
  cases ho:qg1 opsL (c :: t)with
  | some m=>exact qn8 (qh25 b B _ m l w h hb hB hl hm ho)
  | none=>exact qq17 h (mark_no b B _ l w h hm ho)
theorem qk19:Calls Am 48 #[qn1 b] w (WP b B (ba (c :: t)) l w (way3 c t (qi2 l))):=by
 unfold way3;by_cases h0:c=42
 ·rw [if_pos h0];exact qn8 (qv23 b B _ (ba t) c l w h hb hB hl (qy5 c t) h0)
 ·rw [if_neg h0];exact qq17 h (star_no b B _ (ba t) c l w h (qy5 c t) h0)
theorem qj19:Calls Am 49 #[qn1 b] w (WP b B (ba (c :: t)) l w (qi23 c t)):=by
 unfold qi23;by_cases h0:c=36
 ·rw [if_pos h0];have:=qj13 b B _ (ba t) c l w h hb hB hl (by rw [qj1];simp;omega) hT (qy5 c t) h0;rw [qa1]at this;unfold varW;by_cases hn:qc8 (ba (qa4 t))=true
  ·rw [if_pos hn];simp only [hn,if_true]at this;exact qn8 this
  ·rw [if_neg hn];simp only [hn,if_false]at this;exact qm7 this
 ·rw [if_neg h0];exact qq17 h (qe15 b B _ (ba t) c l w h (qy5 c t) h0)
theorem qi19:Calls Am 50 #[qn1 b] w (WP b B (ba (c :: t)) l w (qd23 (c :: t) (qi2 l))):=by
 unfold qd23;by_cases h0:qa4 (c :: t)= []
 ·rw [if_pos h0];exact qg23 h hb hB (name_no b B _ l w h (by rw [qj1];simp;omega) hT h0)
 ·rw [if_neg h0];have:=qb25 b B _ l w h hb hB hl (by rw [qj1];simp;omega) hT h0;rw [qa1]at this;unfold qx9;unfold qi21 at this;by_cases hn:qc8 (ba (qa4 (c :: t)))=true
  ·rw [if_pos hn];simp only [hn,if_true]at this;by_cases he:qi2 l=true
   ·rw [if_pos he];simp only [he,if_true]at this;by_cases hf:fourL.contains (qa4 (c :: t))=true
    ·rw [if_pos hf];simp only [hf,if_true]at this;exact qn8 this
    ·rw [if_neg hf];simp only [hf,if_false]at this;exact qm7 this
   ·rw [if_neg he];simp only [he,if_false]at this;exact qn8 this
  ·rw [if_neg hn];simp only [hn,if_false]at this;exact qm7 this
theorem qh19:Calls Am 51 #[qn1 b] w (WP b B (ba (c :: t)) l w (some none)):=qm7 (qs3 b B _ l w h hb)
end
theorem qw11 (p:UInt8→Bool):∀ l:List UInt8,l.dropWhile p=l.drop (l.takeWhile p).length
 | []=>rfl
 | x :: l=>by
  rw [Bk,Bj]
  cases hp:p x with
  | true=>simpa using qw11 p l
  | false=>simp
theorem qy24 (L:List UInt8):∃ y,L=qg5 L ++ y:=by
 have h:L.takeWhile qr1 ++ L.dropWhile qr1=L:=List.takeWhile_append_dropWhile;unfold qg5
 split
 ·rename_i h2
  cases hr:L.dropWhile qr1 with
  | nil=>rw [hr]at h2;simp at h2
  | cons a r=>
   rw [hr]at h2;obtain rfl:a=46:=by simpa using h2
   refine⟨r.dropWhile qr1,?_⟩;rw [List.tail_cons,A9,AJ,List.takeWhile_append_dropWhile,← hr,h]
 ·exact⟨L.dropWhile qr1,h.symm⟩
theorem qe21 (L:List UInt8):L.take (qg5 L).length=qg5 L:=by
 obtain⟨y,hy⟩:=qy24 L;have:(qg5 L ++ y).take (qg5 L).length=qg5 L:=List.take_left
 rwa [← hy]at this
theorem qq12 (L:List UInt8) (N:Nat) (hN:(qg5 L).length=N):(ba L).extract 0 N=ba (qg5 L)∧(ba L).extract N (ba L).size=ba (L.drop (qg5 L).length):=by
 have hle:=qw15 L;refine⟨?_,?_⟩
 ·rw [qh7 _ N (by rw [qj1];omega),qa1,← hN,qe21]
 ·rw [qg6 _ N (by rw [qj1];omega),qa1,hN]
theorem num_wp {b B:Nat} {s:ByteArray} {l:List Wd} {w:World} {f:FuncId} {L:List UInt8} (hc:Calls Am f #[qn1 b] w fun e w'=>e= .returned (Ae true)∧qf23 b B s l (qg5 L) (L.drop (qg5 L).length) w'∧Fr b B w w'):Calls Am f #[qn1 b] w (WP b B s l w (some (numW L))):=by
 unfold qf23 at hc;unfold numW;by_cases h:(qf8 (qg5 L)).2=true∧(qf8 (qg5 L)).1.1=0
 ·rw [if_pos h];simp only [if_pos h]at hc;exact qn8 hc
 ·rw [if_neg h];simp only [if_neg h]at hc;exact qm7 hc
theorem qe10 (L:List UInt8):dgN (ba L)=(L.takeWhile qr1).length:=rfl
theorem qm19 (b B:Nat) (c:UInt8) (t:List UInt8) (l:List Wd) (w:World) (h:LB b B (ba (c :: t)) l false w) (hb:b<B) (hB:B≤w.heap.size) (hl:l.length≤1000) (hs:t.length≤1000):Calls Am 46 #[qn1 b] w (WP b B (ba (c :: t)) l w (way1 (c :: t))):=by
 have hsz:(ba (c :: t)).size≤1000000000:=by rw [qj1];simp;omega
 have hd:=qy5 c t;unfold way1;by_cases hdc:qr1 c=true
 ·have hn:qr12 (c :: t)=true:=by unfold qr12;simp [hdc]
  rw [if_pos hn];apply num_wp;have hpos:0<dgN (ba (c :: t)):=by rw [qe10,Bj,if_pos hdc];simp
  have hle:=qk17 (ba (c :: t));have hdw:=qw11 qr1 (c :: t);have hdg:=qe10 (c :: t);generalize hL:c :: t=L at *;by_cases hq:dgN (ba L)<(ba L).size
  ·have hq':(L.takeWhile qr1).length<L.length:=by rw [← hdg,← qj1 L];exact hq
   have hcons:L.dropWhile qr1=L[(L.takeWhile qr1).length] :: L.drop ((L.takeWhile qr1).length+1):=by rw [hdw];exact AQ hq'
   by_cases h46:L[(L.takeWhile qr1).length]=46
   ·have hN:(qg5 L).length=(L.takeWhile qr1).length+(1+dgN (ba (L.drop ((L.takeWhile qr1).length+1)))):=by
     unfold qg5;rw [hcons,h46,if_pos (by simp),List.tail_cons,Aq,AE,qe10];omega
    obtain⟨e1,e2⟩:=qq12 L _ hN;exact qw24 b B (L.takeWhile qr1).length (dgN (ba (L.drop ((L.takeWhile qr1).length+1)))) (ba L) (ba (L.drop ((L.takeWhile qr1).length+1))) c l w h hb hB hl hsz hdg (by rw [← hdg];exact hpos) (by rw [← hdg];exact hq) h46 (by rw [qg6 _ _ (by rw [qj1];omega),qa1]) rfl _ _ e1 e2
   ·have hN:(qg5 L).length=(L.takeWhile qr1).length:=by
     unfold qg5;rw [hcons,if_neg (by rw [List.head?_cons];intro q;exact h46 (Az.inj q))]
    obtain⟨e1,e2⟩:=qq12 L _ hN;exact qd21 b B (L.takeWhile qr1).length (ba L) c l w h hb hB hl hsz hdg (by rw [← hdg];exact hpos) (by rw [← hdg];exact hq) h46 _ _ e1 e2
  ·have hdn:L.dropWhile qr1= []:=by rw [hdw];exact List.drop_eq_nil_of_le (by rw [← hdg,← qj1 L];omega)
   have hN:(qg5 L).length=(L.takeWhile qr1).length:=by
    unfold qg5;rw [hdn,if_neg (by simp)]
   obtain⟨e1,e2⟩:=qq12 L _ hN;exact qc21 b B (L.takeWhile qr1).length (ba L) c l w h hb hB hl hsz hdg (by rw [← hdg];exact hpos) (by rw [← hdg];exact hq) _ _ e1 e2
 ·have h0:dgN (ba (c :: t))=0:=by rw [qe10,Bj,if_neg hdc];rfl
  by_cases hc:c=46
  ·by_cases ht:dgN (ba t)=0
   ·have hn:¬ qr12 (c :: t)=true:=by
     unfold qr12;simp only [hdc,Bool.false_or,AK];rintro⟨_,hx⟩
     cases t with
     | nil=>cases hx
     | cons d t=>rw [qe10,Bj,if_pos hx]at ht;simp at ht
    rw [if_neg hn];exact qq17 h (qm18 b B _ _ (ba t) c l w h hsz hd h0 hc rfl ht)
   ·have hn:qr12 (c :: t)=true:=by
     unfold qr12;rw [hc]
     cases t with
     | nil=>exact absurd rfl ht
     | cons d t=>
      cases hx:qr1 d with
      | true=>simp [hx]
      | false=>rw [qe10,Bj,if_neg (by simp [hx])]at ht;exact absurd rfl ht
    rw [if_pos hn];apply num_wp
    have hN:(qg5 (c :: t)).length=1+dgN (ba t):=by
     unfold qg5;rw [Bk,if_neg hdc,Bj,if_neg hdc,hc,if_pos (by rfl),qe10];simp;omega
    obtain⟨e1,e2⟩:=qq12 (c :: t) _ hN;exact qx24 b B 0 (dgN (ba t)) _ (ba t) c l w h hb hB hl hsz hd h0 hc rfl (by omega) _ _ e1 e2
  ·have hn:¬ qr12 (c :: t)=true:=by
    unfold qr12;simp [hdc,hc]
   rw [if_neg hn];exact qq17 h (qn18 b B _ (ba t) c l w h hsz hd h0 hc)
end Go.Proofs.YtocdckniokhbbaaGreatDoor.LexL
