import Derived.Test.YtocdckniokhbbaaGreatDoorZkZz
import Derived.Test.YtocdckniokhbbaaGreatDoorZkLexJ
import Derived.StillTailTactics
import Derived.BigRegion
set_option linter.unusedVariables false
set_option linter.unusedSimpArgs false
set_option linter.unusedSectionVars false
open Go.Value renaming bool→Ae,string→Ac,slice→Ad,int→Aa
open Go.Proofs.Tryz renaming prog→Aj,ntmps46→BC,func46→BM
open Go.Obj renaming cells→Af
open List renaming length_append→Ar,takeWhile_cons→BE,cons_append→Bf,length_cons→AK
open Go.Lib renaming frozen_of_heap→Bd
open Nat renaming le_of_lt→Ah
open Go.RowKit.Below renaming refl→Ao
open Bool renaming false_eq_true→AS,and_eq_true→AF
open Go.IntKind renaming i64→Ab
open Option renaming some→Ay
set_option maxHeartbeats 16000000
set_option maxRecDepth 100000
namespace Go.Proofs.YtocdckniokhbbaaGreatDoor.LexK
open Go.RowKit Go.Shelf YtocdckniokhbbaaGreatDoorW.PrintWords YtocdckniokhbbaaGreatDoorW.PrintLast YtocdckniokhbbaaGreatDoorW.PrintMore CharA CharB CharD CharF SpanA FigA FigC FigD FigG FigH FigI LexA LexF LexG LexH
theorem qp16 (b B:Nat) (s t:ByteArray) (c:UInt8) (l:List Wd) (w:World) (h:LB b B s l false w) (hs:s.size≤1000000000) (hd:Head s c t) (h0:dgN s=0) (hc:¬ c=46) :
  Calls Aj 46 #[qr1 b] w fun e w'=>e= .returned (Ae false)∧w=w':=by
 have hg:=qm2 s w hs;rw [h0]at hg;obtain⟨v,h1,_⟩:=h;have c0:w.cell? ⟨b,0,none⟩=some (Ac s):=by rw [qb1 h1];rfl
 have hp:=hd.pos;have q1:(((s[0]'hp).toNat:Int) !=46)=true:=by rw [hd.at0,bne_iff_ne];intro q;exact hc ((u8i c 46 (by omega)).1 q)
 clear hd h1 hc h0;unfold qr1;go_enter BM,BC;go_wp2_with fail
 refine hg.mono ?_;rintro e w1 ⟨rfl,rfl⟩;go_wp2_with fail
 go_ret;exact⟨rfl,rfl⟩
theorem qo16 (b B m:Nat) (s t:ByteArray) (c:UInt8) (l:List Wd) (w:World) (h:LB b B s l false w) (hs:s.size≤1000000000) (hd:Head s c t) (h0:dgN s=0) (hc:c=46) (hm:dgN t=m) (hm0:m=0) :
  Calls Aj 46 #[qr1 b] w fun e w'=>e= .returned (Ae false)∧w=w':=by
 have hg:=qm2 s w hs;have hus:=hd.size;have hg3:=qm2 t w (by omega);rw [h0]at hg;rw [hm]at hg3;have c0:w.cell? ⟨b,0,none⟩=some (Ac s):=by obtain⟨v,h1,_⟩:=h;rw [qb1 h1];rfl
 have hp:=hd.pos;have x2:=hd.rest;have x3:(1:Int)≤(s.size:Int):=by omega
 have q1:(((s[0]'hp).toNat:Int) !=46)=false:=by rw [hd.at0,hc];rfl
 have n0:(m == 0)=true:=by simpa using hm0
 clear hd h hc h0 hm hm0 hus;unfold qr1;go_enter BM,BC;go_wp2_with fail
 refine hg.mono ?_;rintro e w1 ⟨rfl,rfl⟩;go_wp2_with fail
 refine hg3.mono ?_;rintro e w1 ⟨rfl,rfl⟩;go_wp2_with fail
 go_ret;exact⟨rfl,rfl⟩
def qp21 (b B:Nat) (s:ByteArray) (l:List Wd) (z y:List UInt8) (w':World):Prop:=
 if(qt7 z).2=true∧(qt7 z).1.1=0 then LB b B (ba y) (l ++ [(9,z,(qt7 z).1)]) false w' else LB b B s l true w'
theorem qc12 {W:World} {b B:Nat} {s:ByteArray} {l:List Wd} {x:Wd} (h:LB b B s (l ++ [x]) false W):∃ g cap,W.heap[b]?=some (Af #[Ac s,Ad (some ⟨g,0,none⟩) (l.length+1) cap,Ae false] 90 (0,0))∧W.ownsRow B 93 4 (Ad (some ⟨g,0,none⟩) (l.length+1) cap) (l.length+1) (wcs (l ++ [x]))∧(∀ j,W.frozen? ⟨g,j,none⟩=false):=by
 obtain⟨v,h1,h2⟩:=h;rw [Ar]at h2;obtain⟨g,cap,rfl⟩:=qj2 h2;refine⟨g,cap,h1,h2,fun j=>?_⟩
 rcases h2.2 with ⟨h0,_⟩ | ⟨g',cap',cur,hv,hB,hg,_⟩
 ·cases h0
 ·cases hv
  exact Bd hg j
theorem qp19 (b B n:Nat) (s:ByteArray) (c:UInt8) (l:List Wd) (w:World) (h:LB b B s l false w) (hb:b<B) (hB:B≤w.heap.size) (hl:l.length≤1000) (hs:s.size≤1000000000) (h0:dgN s=n) (hn:0<n) (hq:¬ n<s.size) (z y:List UInt8) (hz:s.extract 0 n=ba z) (hy:s.extract n s.size=ba y) :
  Calls Aj 46 #[qr1 b] w fun e w'=>e= .returned (Ae true)∧qp21 b B s l z y w'∧Fr b B w w':=by
 have hg:=qm2 s w hs;have hle:=qs15 s;rw [h0]at hg hle;have n0:(n == 0)=false:=by simp;omega
 have n1:(0:Int)≤(n:Int):=by omega
 have n2:(n:Int)≤(s.size:Int):=by omega
 have n3:decide (n<s.size)=false:=by simpa using hq
 have hzs:(ba z).size≤1000000000:=by rw [← hz];simp;omega
 have cl:=qn8 (ba z) w hzs;rw [qe1]at cl;have HF2:Aside0 (∀ W,Below w.heap.size w W→Fr b B w W):=⟨fun W hW=>Fr.of_below hW hB (Ah hb)⟩;have HC:Aside0 (∀ W,Below w.heap.size w W→W.cell? ⟨b,0,none⟩=some (Ac s)):=⟨fun W hW=>zbf⟩;have HN:Aside0 (∀ W,Below w.heap.size w W→W.heap.size≠b):=⟨fun W hW=>by have:=hW.size;have:=h.lt;omega⟩;have hf:∀ W,Below w.heap.size w W→_:=fun W hW=>qo3 b B s l W (h.below hW) hb;have hy2:∀ W,Below w.heap.size w W→_:=fun W hW=>Aside0.mk (qs6 b B s l 9 (ba z) (ba y) W.drew (h.below hW).drew hb (Nat.le_trans hB hW.size) hl);have c0:w.cell? ⟨b,0,none⟩=some (Ac s):=HC.out w (Ao _ _);have HL:=Aside0.mk hf;have HY:=Aside0.mk hy2;clear h hzs hf hy2 h0 hq hle;unfold qp21;rw [qe1]at HY;generalize qt7 z=q at *;obtain⟨⟨d1,d2⟩,is⟩:=q;unfold qr1 at HL HY ⊢;simp only at cl ⊢
 cases is with
 | false=>
  simp only [AS,false_and,if_false];clear HY HC HN;go_enter BM,BC;go_wp2_with fail
  refine hg.mono ?_;rintro e w2 ⟨rfl,rfl⟩;go_wp2_with fail
  refine cl.mono ?_;rintro e w2 ⟨rfl,b2⟩;have b3:=b2.alloc b2.size (Af #[Aa Ab d1,Aa Ab d2] 24);have hL:=HL.out _ b3;have F1:=Aside0.mk (HF2.out _ b3);clear b2 b3;go_wp2_with fail
  refine hL.mono ?_;rintro e w3 ⟨rfl,h2,f2⟩;go_wp2_with fail
  go_ret;exact⟨rfl,h2,F1.out.trans f2⟩
 | true=>
  by_cases hd1:d1=0
  ·subst hd1;simp only [true_and,if_true];clear HL;go_enter BM,BC;go_wp2_with fail
   refine hg.mono ?_;rintro e w2 ⟨rfl,rfl⟩;go_wp2_with fail
   refine cl.mono ?_;rintro e w2 ⟨rfl,b2⟩;have b3:=b2.alloc b2.size (Af #[Aa Ab 0,Aa Ab d2] 24);have X3:=qs3 0 d2 w2;have y0:=X3.c0;have c3:=HC.out _ b3;have F1:=Aside0.mk (HF2.out _ b3);have hY:=HY.out _ b3;have hnb:=HN.out w2 b2;have HX:=Aside0.mk X3;have HNB:=Aside0.mk hnb;clear b2 b3 X3 hnb;go_wp2_with fail
   generalize w2.alloc (Af #[Aa Ab 0,Aa Ab d2] 24)=w3 at *;refine wp_region_still_tail 13 zm zm ?_;simp only [List.take_succ_cons,List.take_zero,List.drop_succ_cons,List.drop_zero]
   change wpStill _ _ w3.drew _ _ _
   repeat still_step
   refine wpStill_nil ?_
   change wpList _ _ _ _ _ w3.drew
   have hY:=hY.out;go_wp2_with fail
   refine hY.mono ?_;rintro e w4 ⟨rfl,h4,f4,o4⟩;have X4:Box w2.heap.size 0 d2 w4:=o4 _ _ _ HX.out (by decide) HNB.out;obtain⟨g,cap,k1,k2,k3⟩:=qc12 h4;have a1:w4.cell? ⟨b,1,none⟩=some (Ad (some ⟨g,0,none⟩) (l.length+1) cap):=by rw [qb1 k1];rfl
   have z0:=X4.c0;have z1:=X4.c1;have r2:w4.cell? ⟨g,l.length*4+2,none⟩=some (Aa Ab 0):=qt2 k2 2 _ rfl;have r3:w4.cell? ⟨g,l.length*4+3,none⟩=some (Aa Ab 0):=qt2 k2 3 _ rfl;have p2:=k3 (l.length*4+2);have p3:=k3 (l.length*4+3);have HL5:=Aside0.mk (LB.put_n hb 0 d2 k1 k2);have hgB:=(k2.lt g rfl).1;have HF5:=Aside0.mk (((F1.out.drew.trans f4).set (.inr hgB) (Ah hb) (l.length*4+2) (Aa Ab 0)).set (.inr hgB) (Ah hb) (l.length*4+3) (Aa Ab d2));clear k1 k2 k3 h4 f4 o4 X4 hY y0 c3 hgB;go_wp2_with fail
   go_region;go_wp2_with fail
   go_ret;exact⟨rfl,HL5.out.drew,HF5.out.drew⟩
  ·have hne:(d1 !=0)=true:=by simpa using hd1
   simp only [true_and,hd1,if_false];clear HY HC HN hd1;go_enter BM,BC;go_wp2_with fail
   refine hg.mono ?_;rintro e w2 ⟨rfl,rfl⟩;go_wp2_with fail
   refine cl.mono ?_;rintro e w2 ⟨rfl,b2⟩;have b3:=b2.alloc b2.size (Af #[Aa Ab d1,Aa Ab d2] 24);have X3:=qs3 d1 d2 w2;have y0:=X3.c0;have y1:=X3.c1;clear X3;have hL:=HL.out _ b3;have F1:=Aside0.mk (HF2.out _ b3);clear b2 b3;go_wp2_with fail
   refine hL.mono ?_;rintro e w3 ⟨rfl,h2,f2⟩;go_wp2_with fail
   go_ret;exact⟨rfl,h2,F1.out.trans f2⟩
theorem qq19 (b B n:Nat) (s:ByteArray) (c:UInt8) (l:List Wd) (w:World) (h:LB b B s l false w) (hb:b<B) (hB:B≤w.heap.size) (hl:l.length≤1000) (hs:s.size≤1000000000) (h0:dgN s=n) (hn:0<n) (hq:n<s.size) (hne:¬ (s[n]'hq)=46) (z y:List UInt8) (hz:s.extract 0 n=ba z) (hy:s.extract n s.size=ba y) :
  Calls Aj 46 #[qr1 b] w fun e w'=>e= .returned (Ae true)∧qp21 b B s l z y w'∧Fr b B w w':=by
 have hg:=qm2 s w hs;rw [h0]at hg;have n0:(n == 0)=false:=by simp;omega
 have n1:(0:Int)≤(n:Int):=by omega
 have n2:(n:Int)≤(s.size:Int):=by omega
 have n4:(((s[n]'hq).toNat:Int) == 46)=false:=by rw [beq_eq_false_iff_ne];intro q;exact hne ((u8i _ 46 (by omega)).1 q)
 have hzs:(ba z).size≤1000000000:=by rw [← hz];simp;omega
 have cl:=qn8 (ba z) w hzs;rw [qe1]at cl;have HF2:Aside0 (∀ W,Below w.heap.size w W→Fr b B w W):=⟨fun W hW=>Fr.of_below hW hB (Ah hb)⟩;have HC:Aside0 (∀ W,Below w.heap.size w W→W.cell? ⟨b,0,none⟩=some (Ac s)):=⟨fun W hW=>zbf⟩;have HN:Aside0 (∀ W,Below w.heap.size w W→W.heap.size≠b):=⟨fun W hW=>by have:=hW.size;have:=h.lt;omega⟩;have hf:∀ W,Below w.heap.size w W→_:=fun W hW=>qo3 b B s l W (h.below hW) hb;have hy2:∀ W,Below w.heap.size w W→_:=fun W hW=>Aside0.mk (qs6 b B s l 9 (ba z) (ba y) W.drew (h.below hW).drew hb (Nat.le_trans hB hW.size) hl);have c0:w.cell? ⟨b,0,none⟩=some (Ac s):=HC.out w (Ao _ _);have HL:=Aside0.mk hf;have HY:=Aside0.mk hy2;clear h hzs hf hy2 h0 hne;unfold qp21;rw [qe1]at HY;generalize qt7 z=q at *;obtain⟨⟨d1,d2⟩,is⟩:=q;unfold qr1 at HL HY ⊢;simp only at cl ⊢
 cases is with
 | false=>
  simp only [AS,false_and,if_false];clear HY HC HN;go_enter BM,BC;go_wp2_with fail
  refine hg.mono ?_;rintro e w2 ⟨rfl,rfl⟩;go_wp2_with fail
  refine cl.mono ?_;rintro e w2 ⟨rfl,b2⟩;have b3:=b2.alloc b2.size (Af #[Aa Ab d1,Aa Ab d2] 24);have hL:=HL.out _ b3;have F1:=Aside0.mk (HF2.out _ b3);clear b2 b3;go_wp2_with fail
  refine hL.mono ?_;rintro e w3 ⟨rfl,h2,f2⟩;go_wp2_with fail
  go_ret;exact⟨rfl,h2,F1.out.trans f2⟩
 | true=>
  by_cases hd1:d1=0
  ·subst hd1;simp only [true_and,if_true];clear HL;go_enter BM,BC;go_wp2_with fail
   refine hg.mono ?_;rintro e w2 ⟨rfl,rfl⟩;go_wp2_with fail
   refine cl.mono ?_;rintro e w2 ⟨rfl,b2⟩;have b3:=b2.alloc b2.size (Af #[Aa Ab 0,Aa Ab d2] 24);have X3:=qs3 0 d2 w2;have y0:=X3.c0;have c3:=HC.out _ b3;have F1:=Aside0.mk (HF2.out _ b3);have hY:=HY.out _ b3;have hnb:=HN.out w2 b2;have HX:=Aside0.mk X3;have HNB:=Aside0.mk hnb;clear b2 b3 X3 hnb;go_wp2_with fail
   generalize w2.alloc (Af #[Aa Ab 0,Aa Ab d2] 24)=w3 at *;refine wp_region_still_tail 13 zm zm ?_;simp only [List.take_succ_cons,List.take_zero,List.drop_succ_cons,List.drop_zero]
   change wpStill _ _ w3.drew _ _ _
   repeat still_step
   refine wpStill_nil ?_
   change wpList _ _ _ _ _ w3.drew
   have hY:=hY.out;go_wp2_with fail
   refine hY.mono ?_;rintro e w4 ⟨rfl,h4,f4,o4⟩;have X4:Box w2.heap.size 0 d2 w4:=o4 _ _ _ HX.out (by decide) HNB.out;obtain⟨g,cap,k1,k2,k3⟩:=qc12 h4;have a1:w4.cell? ⟨b,1,none⟩=some (Ad (some ⟨g,0,none⟩) (l.length+1) cap):=by rw [qb1 k1];rfl
   have z0:=X4.c0;have z1:=X4.c1;have r2:w4.cell? ⟨g,l.length*4+2,none⟩=some (Aa Ab 0):=qt2 k2 2 _ rfl;have r3:w4.cell? ⟨g,l.length*4+3,none⟩=some (Aa Ab 0):=qt2 k2 3 _ rfl;have p2:=k3 (l.length*4+2);have p3:=k3 (l.length*4+3);have HL5:=Aside0.mk (LB.put_n hb 0 d2 k1 k2);have hgB:=(k2.lt g rfl).1;have HF5:=Aside0.mk (((F1.out.drew.trans f4).set (.inr hgB) (Ah hb) (l.length*4+2) (Aa Ab 0)).set (.inr hgB) (Ah hb) (l.length*4+3) (Aa Ab d2));clear k1 k2 k3 h4 f4 o4 X4 hY y0 c3 hgB;go_wp2_with fail
   go_region;go_wp2_with fail
   go_ret;exact⟨rfl,HL5.out.drew,HF5.out.drew⟩
  ·have hne:(d1 !=0)=true:=by simpa using hd1
   simp only [true_and,hd1,if_false];clear HY HC HN hd1;go_enter BM,BC;go_wp2_with fail
   refine hg.mono ?_;rintro e w2 ⟨rfl,rfl⟩;go_wp2_with fail
   refine cl.mono ?_;rintro e w2 ⟨rfl,b2⟩;have b3:=b2.alloc b2.size (Af #[Aa Ab d1,Aa Ab d2] 24);have X3:=qs3 d1 d2 w2;have y0:=X3.c0;have y1:=X3.c1;clear X3;have hL:=HL.out _ b3;have F1:=Aside0.mk (HF2.out _ b3);clear b2 b3;go_wp2_with fail
   refine hL.mono ?_;rintro e w3 ⟨rfl,h2,f2⟩;go_wp2_with fail
   go_ret;exact⟨rfl,h2,F1.out.trans f2⟩
theorem qd23 (b B n m:Nat) (s u:ByteArray) (c:UInt8) (l:List Wd) (w:World) (h:LB b B s l false w) (hb:b<B) (hB:B≤w.heap.size) (hl:l.length≤1000) (hs:s.size≤1000000000) (h0:dgN s=n) (hn:0<n) (hq:n<s.size) (hne:(s[n]'hq)=46) (hu:s.extract (n+1) s.size=u) (hm:dgN u=m) (z y:List UInt8) (hz:s.extract 0 (n+(1+m))=ba z) (hy:s.extract (n+(1+m)) s.size=ba y) :
  Calls Aj 46 #[qr1 b] w fun e w'=>e= .returned (Ae true)∧qp21 b B s l z y w'∧Fr b B w w':=by
 have hg:=qm2 s w hs;rw [h0]at hg;have hus:u.size=s.size - (n+1):=by rw [← hu];simp
 have hg3:=qm2 u w (by omega);have hmu:=qs15 u;rw [hm]at hg3 hmu;have n0:(n == 0)=false:=by simp;omega
 have n1:(0:Int)≤(n:Int):=by omega
 have n2:(n:Int)+1≤(s.size:Int):=by omega
 have n3:(n:Int)+(1+(m:Int))≤(s.size:Int):=by omega
 have n5:m≤1000000000:=by omega
 have n6:(0:Int)≤(n:Int)+(1+(m:Int)):=by omega
 have n7:((n:Int)+(1+(m:Int))).toNat=n+(1+m):=by omega
 have n4:(((s[n]'hq).toNat:Int) == 46)=true:=by rw [beq_iff_eq];exact(u8i _ 46 (by omega)).2 hne
 have hzs:(ba z).size≤1000000000:=by rw [← hz];simp;omega
 have cl:=qn8 (ba z) w hzs;rw [qe1]at cl;have HF2:Aside0 (∀ W,Below w.heap.size w W→Fr b B w W):=⟨fun W hW=>Fr.of_below hW hB (Ah hb)⟩;have HC:Aside0 (∀ W,Below w.heap.size w W→W.cell? ⟨b,0,none⟩=some (Ac s)):=⟨fun W hW=>zbf⟩;have HN:Aside0 (∀ W,Below w.heap.size w W→W.heap.size≠b):=⟨fun W hW=>by have:=hW.size;have:=h.lt;omega⟩;have hf:∀ W,Below w.heap.size w W→_:=fun W hW=>qo3 b B s l W (h.below hW) hb;have hy2:∀ W,Below w.heap.size w W→_:=fun W hW=>Aside0.mk (qs6 b B s l 9 (ba z) (ba y) W.drew (h.below hW).drew hb (Nat.le_trans hB hW.size) hl);have c0:w.cell? ⟨b,0,none⟩=some (Ac s):=HC.out w (Ao _ _);have HL:=Aside0.mk hf;have HY:=Aside0.mk hy2;clear h hzs hf hy2 h0 hne hm hus hmu;unfold qp21;rw [qe1]at HY;generalize qt7 z=q at *;obtain⟨⟨d1,d2⟩,is⟩:=q;unfold qr1 at HL HY ⊢;simp only at cl ⊢
 cases is with
 | false=>
  simp only [AS,false_and,if_false];clear HY HC HN;go_enter BM,BC;go_wp2_with fail
  refine hg.mono ?_;rintro e w2 ⟨rfl,rfl⟩;go_wp2_with fail
  refine hg3.mono ?_;rintro e w2 ⟨rfl,rfl⟩;go_wp2_with fail
  refine cl.mono ?_;rintro e w2 ⟨rfl,b2⟩;have b3:=b2.alloc b2.size (Af #[Aa Ab d1,Aa Ab d2] 24);have hL:=HL.out _ b3;have F1:=Aside0.mk (HF2.out _ b3);clear b2 b3;go_wp2_with fail
  refine hL.mono ?_;rintro e w3 ⟨rfl,h2,f2⟩;go_wp2_with fail
  go_ret;exact⟨rfl,h2,F1.out.trans f2⟩
 | true=>
  by_cases hd1:d1=0
  ·subst hd1;simp only [true_and,if_true];clear HL;go_enter BM,BC;go_wp2_with fail
   refine hg.mono ?_;rintro e w2 ⟨rfl,rfl⟩;go_wp2_with fail
   refine hg3.mono ?_;rintro e w2 ⟨rfl,rfl⟩;go_wp2_with fail
   refine cl.mono ?_;rintro e w2 ⟨rfl,b2⟩;have b3:=b2.alloc b2.size (Af #[Aa Ab 0,Aa Ab d2] 24);have X3:=qs3 0 d2 w2;have y0:=X3.c0;have c3:=HC.out _ b3;have F1:=Aside0.mk (HF2.out _ b3);have hY:=HY.out _ b3;have hnb:=HN.out w2 b2;have HX:=Aside0.mk X3;have HNB:=Aside0.mk hnb;clear b2 b3 X3 hnb;go_wp2_with fail
   generalize w2.alloc (Af #[Aa Ab 0,Aa Ab d2] 24)=w3 at *;refine wp_region_still_tail 13 zm zm ?_;simp only [List.take_succ_cons,List.take_zero,List.drop_succ_cons,List.drop_zero]
   change wpStill _ _ w3.drew _ _ _
   repeat still_step
   refine wpStill_nil ?_
   change wpList _ _ _ _ _ w3.drew
   have hY:=hY.out;go_wp2_with fail
   refine hY.mono ?_;rintro e w4 ⟨rfl,h4,f4,o4⟩;have X4:Box w2.heap.size 0 d2 w4:=o4 _ _ _ HX.out (by decide) HNB.out;obtain⟨g,cap,k1,k2,k3⟩:=qc12 h4;have a1:w4.cell? ⟨b,1,none⟩=some (Ad (some ⟨g,0,none⟩) (l.length+1) cap):=by rw [qb1 k1];rfl
   have z0:=X4.c0;have z1:=X4.c1;have r2:w4.cell? ⟨g,l.length*4+2,none⟩=some (Aa Ab 0):=qt2 k2 2 _ rfl;have r3:w4.cell? ⟨g,l.length*4+3,none⟩=some (Aa Ab 0):=qt2 k2 3 _ rfl;have p2:=k3 (l.length*4+2);have p3:=k3 (l.length*4+3);have HL5:=Aside0.mk (LB.put_n hb 0 d2 k1 k2);have hgB:=(k2.lt g rfl).1;have HF5:=Aside0.mk (((F1.out.drew.trans f4).set (.inr hgB) (Ah hb) (l.length*4+2) (Aa Ab 0)).set (.inr hgB) (Ah hb) (l.length*4+3) (Aa Ab d2));clear k1 k2 k3 h4 f4 o4 X4 hY y0 c3 hgB;go_wp2_with fail
   go_region;go_wp2_with fail
   go_ret;exact⟨rfl,HL5.out.drew,HF5.out.drew⟩
  ·have hne:(d1 !=0)=true:=by simpa using hd1
   simp only [true_and,hd1,if_false];clear HY HC HN hd1;go_enter BM,BC;go_wp2_with fail
   refine hg.mono ?_;rintro e w2 ⟨rfl,rfl⟩;go_wp2_with fail
   refine hg3.mono ?_;rintro e w2 ⟨rfl,rfl⟩;go_wp2_with fail
   refine cl.mono ?_;rintro e w2 ⟨rfl,b2⟩;have b3:=b2.alloc b2.size (Af #[Aa Ab d1,Aa Ab d2] 24);have X3:=qs3 d1 d2 w2;have y0:=X3.c0;have y1:=X3.c1;clear X3;have hL:=HL.out _ b3;have F1:=Aside0.mk (HF2.out _ b3);clear b2 b3;go_wp2_with fail
   refine hL.mono ?_;rintro e w3 ⟨rfl,h2,f2⟩;go_wp2_with fail
   go_ret;exact⟨rfl,h2,F1.out.trans f2⟩
theorem qe23 (b B n m:Nat) (s t:ByteArray) (c:UInt8) (l:List Wd) (w:World) (h:LB b B s l false w) (hb:b<B) (hB:B≤w.heap.size) (hl:l.length≤1000) (hs:s.size≤1000000000) (hd:Head s c t) (h0:dgN s=0) (hc:c=46) (hm:dgN t=m) (hm0:0<m) (z y:List UInt8) (hz:s.extract 0 (1+m)=ba z) (hy:s.extract (1+m) s.size=ba y) :
  Calls Aj 46 #[qr1 b] w fun e w'=>e= .returned (Ae true)∧qp21 b B s l z y w'∧Fr b B w w':=by
 have hg:=qm2 s w hs;rw [h0]at hg;have hus:=hd.size;have hg3:=qm2 t w (by omega);have hmu:=qs15 t;rw [hm]at hg3 hmu;have hp:=hd.pos;have x2:=hd.rest;have x3:(1:Int)≤(s.size:Int):=by omega
 have q1:(((s[0]'hp).toNat:Int) !=46)=false:=by rw [hd.at0,hc];rfl
 have q2:(((s[0]'hp).toNat:Int) == 46)=true:=by rw [hd.at0,hc];rfl
 have n0:(m == 0)=false:=by simp;omega
 have n3:1+(m:Int)≤(s.size:Int):=by omega
 have n5:m≤1000000000:=by omega
 have n6:(0:Int)≤1+(m:Int):=by omega
 have n7:(1+(m:Int)).toNat=1+m:=by omega
 have hzs:(ba z).size≤1000000000:=by rw [← hz];simp;omega
 have cl:=qn8 (ba z) w hzs;rw [qe1]at cl;have HF2:Aside0 (∀ W,Below w.heap.size w W→Fr b B w W):=⟨fun W hW=>Fr.of_below hW hB (Ah hb)⟩;have HC:Aside0 (∀ W,Below w.heap.size w W→W.cell? ⟨b,0,none⟩=some (Ac s)):=⟨fun W hW=>zbf⟩;have HN:Aside0 (∀ W,Below w.heap.size w W→W.heap.size≠b):=⟨fun W hW=>by have:=hW.size;have:=h.lt;omega⟩;have hf:∀ W,Below w.heap.size w W→_:=fun W hW=>qo3 b B s l W (h.below hW) hb;have hy2:∀ W,Below w.heap.size w W→_:=fun W hW=>Aside0.mk (qs6 b B s l 9 (ba z) (ba y) W.drew (h.below hW).drew hb (Nat.le_trans hB hW.size) hl);have c0:w.cell? ⟨b,0,none⟩=some (Ac s):=HC.out w (Ao _ _);have HL:=Aside0.mk hf;have HY:=Aside0.mk hy2;clear h hzs hf hy2 h0 hc hm hus hmu hd;unfold qp21;rw [qe1]at HY;generalize qt7 z=q at *;obtain⟨⟨d1,d2⟩,is⟩:=q;unfold qr1 at HL HY ⊢;simp only at cl ⊢
 cases is with
 | false=>
  simp only [AS,false_and,if_false];clear HY HC HN;go_enter BM,BC;go_wp2_with fail
  refine hg.mono ?_;rintro e w2 ⟨rfl,rfl⟩;go_wp2_with fail
  refine hg3.mono ?_;rintro e w2 ⟨rfl,rfl⟩;go_wp2_with fail
  refine hg3.mono ?_;rintro e w2 ⟨rfl,rfl⟩;go_wp2_with fail
  refine cl.mono ?_;rintro e w2 ⟨rfl,b2⟩;have b3:=b2.alloc b2.size (Af #[Aa Ab d1,Aa Ab d2] 24);have hL:=HL.out _ b3;have F1:=Aside0.mk (HF2.out _ b3);clear b2 b3;go_wp2_with fail
  refine hL.mono ?_;rintro e w3 ⟨rfl,h2,f2⟩;go_wp2_with fail
  go_ret;exact⟨rfl,h2,F1.out.trans f2⟩
 | true=>
  by_cases hd1:d1=0
  ·subst hd1;simp only [true_and,if_true];clear HL;go_enter BM,BC;go_wp2_with fail
   refine hg.mono ?_;rintro e w2 ⟨rfl,rfl⟩;go_wp2_with fail
   refine hg3.mono ?_;rintro e w2 ⟨rfl,rfl⟩;go_wp2_with fail
   refine hg3.mono ?_;rintro e w2 ⟨rfl,rfl⟩;go_wp2_with fail
   refine cl.mono ?_;rintro e w2 ⟨rfl,b2⟩;have b3:=b2.alloc b2.size (Af #[Aa Ab 0,Aa Ab d2] 24);have X3:=qs3 0 d2 w2;have y0:=X3.c0;have c3:=HC.out _ b3;have F1:=Aside0.mk (HF2.out _ b3);have hY:=HY.out _ b3;have hnb:=HN.out w2 b2;have HX:=Aside0.mk X3;have HNB:=Aside0.mk hnb;clear b2 b3 X3 hnb;go_wp2_with fail
   generalize w2.alloc (Af #[Aa Ab 0,Aa Ab d2] 24)=w3 at *;refine wp_region_still_tail 13 zm zm ?_;simp only [List.take_succ_cons,List.take_zero,List.drop_succ_cons,List.drop_zero]
   change wpStill _ _ w3.drew _ _ _
   repeat still_step
   refine wpStill_nil ?_
   change wpList _ _ _ _ _ w3.drew
   have hY:=hY.out;go_wp2_with fail
   refine hY.mono ?_;rintro e w4 ⟨rfl,h4,f4,o4⟩;have X4:Box w2.heap.size 0 d2 w4:=o4 _ _ _ HX.out (by decide) HNB.out;obtain⟨g,cap,k1,k2,k3⟩:=qc12 h4;have a1:w4.cell? ⟨b,1,none⟩=some (Ad (some ⟨g,0,none⟩) (l.length+1) cap):=by rw [qb1 k1];rfl
   have z0:=X4.c0;have z1:=X4.c1;have r2:w4.cell? ⟨g,l.length*4+2,none⟩=some (Aa Ab 0):=qt2 k2 2 _ rfl;have r3:w4.cell? ⟨g,l.length*4+3,none⟩=some (Aa Ab 0):=qt2 k2 3 _ rfl;have p2:=k3 (l.length*4+2);have p3:=k3 (l.length*4+3);have HL5:=Aside0.mk (LB.put_n hb 0 d2 k1 k2);have hgB:=(k2.lt g rfl).1;have HF5:=Aside0.mk (((F1.out.drew.trans f4).set (.inr hgB) (Ah hb) (l.length*4+2) (Aa Ab 0)).set (.inr hgB) (Ah hb) (l.length*4+3) (Aa Ab d2));clear k1 k2 k3 h4 f4 o4 X4 hY y0 c3 hgB;go_wp2_with fail
   go_region;go_wp2_with fail
   go_ret;exact⟨rfl,HL5.out.drew,HF5.out.drew⟩
  ·have hne:(d1 !=0)=true:=by simpa using hd1
   simp only [true_and,hd1,if_false];clear HY HC HN hd1;go_enter BM,BC;go_wp2_with fail
   refine hg.mono ?_;rintro e w2 ⟨rfl,rfl⟩;go_wp2_with fail
   refine hg3.mono ?_;rintro e w2 ⟨rfl,rfl⟩;go_wp2_with fail
   refine hg3.mono ?_;rintro e w2 ⟨rfl,rfl⟩;go_wp2_with fail
   refine cl.mono ?_;rintro e w2 ⟨rfl,b2⟩;have b3:=b2.alloc b2.size (Af #[Aa Ab d1,Aa Ab d2] 24);have X3:=qs3 d1 d2 w2;have y0:=X3.c0;have y1:=X3.c1;clear X3;have hL:=HL.out _ b3;have F1:=Aside0.mk (HF2.out _ b3);clear b2 b3;go_wp2_with fail
   refine hL.mono ?_;rintro e w3 ⟨rfl,h2,f2⟩;go_wp2_with fail
   go_ret;exact⟨rfl,h2,F1.out.trans f2⟩
end Go.Proofs.YtocdckniokhbbaaGreatDoor.LexK
namespace Go.Proofs.YtocdckniokhbbaaGreatDoor.LexL
open Go.RowKit Go.Shelf YtocdckniokhbbaaGreatDoorW.PrintWords YtocdckniokhbbaaGreatDoorW.PrintLast YtocdckniokhbbaaGreatDoorW.PrintMore CharA CharB CharD CharF SpanA FigA FigC FigD FigG FigH FigI LexA LexF LexG LexH LexI LexJ LexK
abbrev Way:=Option (Option (Wd × List UInt8))
def qh3:List Way→Option (Wd × List UInt8)
 | []=>none
 | none :: l=>qh3 l
 | some x :: _=>x
def way0 (c:UInt8) (t:List UInt8):Way:=if c=34∨c=39 then some (litW c t)else none
def way1 (s:List UInt8):Way:=if qq16 s=true then some (numW s)else none
def way2 (s:List UInt8):Way:=match qq1 marksL s with | some m=>some (some ((1,m,0,0),s.drop m.length)) | none=>match qq1 opsL s with | some m=>some (some ((5,m,0,0),s.drop m.length)) | none=>none
def way3 (c:UInt8) (t:List UInt8) (e:Bool):Way:=if c=42 then some (some ((if e=true then 5 else 3,[42],0,0),t))else none
def qu21 (c:UInt8) (t:List UInt8):Way:=if c=36 then some (varW t)else none
def qn21 (s:List UInt8) (e:Bool):Way:=if qi4 s= []then none else some (qh10 s e)
def qe8 (c:UInt8) (t:List UInt8) (e:Bool):List Way:=[way0 c t,way1 (c :: t),way2 (c :: t),way3 c t e,qu21 c t,qn21 (c :: t) e,some none]
theorem qq3 (l:List Way):qh3 (none :: l)=qh3 l:=rfl
theorem qx7 (x:Option (Wd × List UInt8)) (l:List Way):qh3 (some x :: l)=x:=rfl
theorem qi15 (c:UInt8) (t:List UInt8) (e:Bool):oneW (c :: t) e=qh3 (qe8 c t e):=by
 have hn:qi4 (c :: t)= []→qh10 (c :: t) e=none:=by
  intro h;unfold qh10;rw [h,if_neg (by decide)]
 have h5:qh3 [qn21 (c :: t) e,some none]=qh10 (c :: t) e:=by
  unfold qn21;by_cases h:qi4 (c :: t)= []
  ·rw [if_pos h,qq3,qx7,hn h]
  ·rw [if_neg h,qx7]
 have h4:qh3 [qu21 c t,qn21 (c :: t) e,some none]=if c=36 then varW t else qh10 (c :: t) e:=by
  unfold qu21;by_cases h:c=36
  ·rw [if_pos h,if_pos h,qx7]
  ·rw [if_neg h,if_neg h,qq3];exact h5
 have h3:qh3 [way3 c t e,qu21 c t,qn21 (c :: t) e,some none]=if c=42 then some ((if e=true then 5 else 3,[42],0,0),t)else if c=36 then varW t else qh10 (c :: t) e:=by
  unfold way3;by_cases h:c=42
  ·rw [if_pos h,if_pos h,qx7]
  ·rw [if_neg h,if_neg h,qq3];exact h4
 unfold qe8;simp only [oneW];unfold way0;by_cases h0:c=34∨c=39
 ·rw [if_pos h0,if_pos h0,qx7]
 rw [if_neg h0,if_neg h0,qq3];unfold way1;by_cases h1:qq16 (c :: t)=true
 ·rw [if_pos h1,if_pos h1,qx7]
 rw [if_neg h1,if_neg h1,qq3];unfold way2
 cases qq1 marksL (c :: t)with
 | some m=>rfl
 | none=>
  cases qq1 opsL (c :: t)with
  | some m=>rfl
  | none=>simp only;rw [qq3];exact h3.symm
def WP (b B:Nat) (s:ByteArray) (l:List Wd) (w:World) (o:Way) (e:Ending) (w':World):Prop:=
 e= .returned (Ae o.isSome)∧Fr b B w w'∧(match o with | none=>LB b B s l false w' | some none=>LB b B s l true w' | some (some (v,r))=>LB b B (ba r) (l ++ [v]) false w')
theorem qv15 {b B:Nat} {s:ByteArray} {l:List Wd} {w:World} (h:LB b B s l false w) {f:FuncId} (hc:Calls Aj f #[qr1 b] w fun e w'=>e= .returned (Ae false)∧w=w'):Calls Aj f #[qr1 b] w (WP b B s l w none):=
 hc.mono fun e w' ⟨h1,h2⟩=>by subst h2;exact⟨h1,Fr.refl _ _ _,h⟩
theorem qr21 {b B:Nat} {s:ByteArray} {l:List Wd} {w:World} (h:LB b B s l false w) (hb:b<B) (hB:B≤w.heap.size) {f:FuncId} (hc:Calls Aj f #[qr1 b] w fun e w'=>e= .returned (Ae false)∧Below w.heap.size w w'):Calls Aj f #[qr1 b] w (WP b B s l w none):=
 hc.mono fun e w' ⟨h1,h2⟩=>⟨h1,Fr.of_below h2 hB (Ah hb),h.below h2⟩
theorem qh7 {b B:Nat} {s:ByteArray} {l:List Wd} {w:World} {f:FuncId} (hc:Calls Aj f #[qr1 b] w fun e w'=>e= .returned (Ae true)∧LB b B s l true w'∧Fr b B w w'):Calls Aj f #[qr1 b] w (WP b B s l w (some none)):=
 hc.mono fun e w' ⟨h1,h2,h3⟩=>⟨h1,h3,h2⟩
theorem qz7 {b B:Nat} {s:ByteArray} {l:List Wd} {w:World} {f:FuncId} {v:Wd} {r:List UInt8} (hc:Calls Aj f #[qr1 b] w fun e w'=>e= .returned (Ae true)∧LB b B (ba r) (l ++ [v]) false w'∧Fr b B w w'):Calls Aj f #[qr1 b] w (WP b B s l w (some (some (v,r)))):=
 hc.mono fun e w' ⟨h1,h2,h3⟩=>⟨h1,h3,h2⟩
section
variable (b B:Nat) (c:UInt8) (t:List UInt8) (l:List Wd) (w:World) (h:LB b B (ba (c :: t)) l false w) (hb:b<B) (hB:B≤w.heap.size) (hl:l.length≤1000) (hs:t.length≤1000) (hT:qz5 w)
include h hb hB hl hs hT
theorem qw17:Calls Aj 45 #[qr1 b] w (WP b B (ba (c :: t)) l w (way0 c t)):=by
 unfold way0;by_cases h0:c=34∨c=39
 ·rw [if_pos h0];unfold litW
  cases hq:qm13 c t with
  | none=>exact qh7 (qf13 b B _ (ba t) c l w h hb (qn5 c t) h0 hq)
  | some q=>
   obtain⟨a,r⟩:=q;exact qz7 (qk14 b B _ (ba t) c a r l w h hb hB hl (by rw [qs1];simp;omega) (qn5 c t) h0 hq)
 ·rw [if_neg h0];exact qv15 h (qr16 b B _ (ba t) c l w h (qn5 c t) h0)
theorem qu17:Calls Aj 47 #[qr1 b] w (WP b B (ba (c :: t)) l w (way2 (c :: t))):=by
 unfold way2
 cases hm:qq1 marksL (c :: t)with
 | some m=>exact qz7 (qo23 b B _ m l w h hb hB hl hm)
 | none=>
  cases ho:qq1 opsL (c :: t)with
  | some m=>exact qz7 (qn23 b B _ m l w h hb hB hl hm ho)
  | none=>exact qv15 h (mark_no b B _ l w h hm ho)
theorem qt17:Calls Aj 48 #[qr1 b] w (WP b B (ba (c :: t)) l w (way3 c t (qe3 l))):=by
 unfold way3;by_cases h0:c=42
 ·rw [if_pos h0];exact qz7 (qm22 b B _ (ba t) c l w h hb hB hl (qn5 c t) h0)
 ·rw [if_neg h0];exact qv15 h (star_no b B _ (ba t) c l w h (qn5 c t) h0)
theorem qs17:Calls Aj 49 #[qr1 b] w (WP b B (ba (c :: t)) l w (qu21 c t)):=by
 unfold qu21;by_cases h0:c=36
 ·rw [if_pos h0];have:=qh12 b B _ (ba t) c l w h hb hB hl (by rw [qs1];simp;omega) hT (qn5 c t) h0;rw [qe1]at this;unfold varW;by_cases hn:qf4 (ba (qi4 t))=true
  ·rw [if_pos hn];simp only [hn,if_true]at this;exact qz7 this
  ·rw [if_neg hn];simp only [hn,if_false]at this;exact qh7 this
 ·rw [if_neg h0];exact qv15 h (qu13 b B _ (ba t) c l w h (qn5 c t) h0)
theorem qr17:Calls Aj 50 #[qr1 b] w (WP b B (ba (c :: t)) l w (qn21 (c :: t) (qe3 l))):=by
 unfold qn21;by_cases h0:qi4 (c :: t)= []
 ·rw [if_pos h0];exact qr21 h hb hB (name_no b B _ l w h (by rw [qs1];simp;omega) hT h0)
 ·rw [if_neg h0];have:=qi23 b B _ l w h hb hB hl (by rw [qs1];simp;omega) hT h0;rw [qe1]at this;unfold qh10;unfold qw19 at this;by_cases hn:qf4 (ba (qi4 (c :: t)))=true
  ·rw [if_pos hn];simp only [hn,if_true]at this;by_cases he:qe3 l=true
   ·rw [if_pos he];simp only [he,if_true]at this;by_cases hf:fourL.contains (qi4 (c :: t))=true
    ·rw [if_pos hf];simp only [hf,if_true]at this;exact qz7 this
    ·rw [if_neg hf];simp only [hf,if_false]at this;exact qh7 this
   ·rw [if_neg he];simp only [he,if_false]at this;exact qz7 this
  ·rw [if_neg hn];simp only [hn,if_false]at this;exact qh7 this
theorem qq17:Calls Aj 51 #[qr1 b] w (WP b B (ba (c :: t)) l w (some none)):=qh7 (qo3 b B _ l w h hb)
end
theorem qf11 (p:UInt8→Bool):∀ l:List UInt8,l.dropWhile p=l.drop (l.takeWhile p).length
 | []=>rfl
 | x :: l=>by
  rw [List.dropWhile_cons,BE]
  cases hp:p x with
  | true=>simpa using qf11 p l
  | false=>simp
theorem qf23 (L:List UInt8):∃ y,L=ql5 L ++ y:=by
 have h:L.takeWhile qb2 ++ L.dropWhile qb2=L:=List.takeWhile_append_dropWhile;unfold ql5
 split
 ·rename_i h2
  cases hr:L.dropWhile qb2 with
  | nil=>rw [hr]at h2;simp at h2
  | cons a r=>
   rw [hr]at h2;obtain rfl:a=46:=by simpa using h2
   refine⟨r.dropWhile qb2,?_⟩;rw [List.tail_cons,List.append_assoc,Bf,List.takeWhile_append_dropWhile,← hr,h]
 ·exact⟨L.dropWhile qb2,h.symm⟩
theorem qr19 (L:List UInt8):L.take (ql5 L).length=ql5 L:=by
 obtain⟨y,hy⟩:=qf23 L;have:(ql5 L ++ y).take (ql5 L).length=ql5 L:=List.take_left
 rwa [← hy]at this
theorem qt11 (L:List UInt8) (N:Nat) (hN:(ql5 L).length=N):(ba L).extract 0 N=ba (ql5 L)∧(ba L).extract N (ba L).size=ba (L.drop (ql5 L).length):=by
 have hle:=qs19 L;refine⟨?_,?_⟩
 ·rw [qe7 _ N (by rw [qs1];omega),qe1,← hN,qr19]
 ·rw [qv5 _ N (by rw [qs1];omega),qe1,hN]
theorem num_wp {b B:Nat} {s:ByteArray} {l:List Wd} {w:World} {f:FuncId} {L:List UInt8} (hc:Calls Aj f #[qr1 b] w fun e w'=>e= .returned (Ae true)∧qp21 b B s l (ql5 L) (L.drop (ql5 L).length) w'∧Fr b B w w'):Calls Aj f #[qr1 b] w (WP b B s l w (some (numW L))):=by
 unfold qp21 at hc;unfold numW;by_cases h:(qt7 (ql5 L)).2=true∧(qt7 (ql5 L)).1.1=0
 ·rw [if_pos h];simp only [if_pos h]at hc;exact qz7 hc
 ·rw [if_neg h];simp only [if_neg h]at hc;exact qh7 hc
theorem qo9 (L:List UInt8):dgN (ba L)=(L.takeWhile qb2).length:=rfl
theorem qv17 (b B:Nat) (c:UInt8) (t:List UInt8) (l:List Wd) (w:World) (h:LB b B (ba (c :: t)) l false w) (hb:b<B) (hB:B≤w.heap.size) (hl:l.length≤1000) (hs:t.length≤1000):Calls Aj 46 #[qr1 b] w (WP b B (ba (c :: t)) l w (way1 (c :: t))):=by
 have hsz:(ba (c :: t)).size≤1000000000:=by rw [qs1];simp;omega
 have hd:=qn5 c t;unfold way1;by_cases hdc:qb2 c=true
 ·have hn:qq16 (c :: t)=true:=by unfold qq16;simp [hdc]
  rw [if_pos hn];apply num_wp;have hpos:0<dgN (ba (c :: t)):=by rw [qo9,BE,if_pos hdc];simp
  have hle:=qs15 (ba (c :: t));have hdw:=qf11 qb2 (c :: t);have hdg:=qo9 (c :: t);generalize hL:c :: t=L at *;by_cases hq:dgN (ba L)<(ba L).size
  ·have hq':(L.takeWhile qb2).length<L.length:=by rw [← hdg,← qs1 L];exact hq
   have hcons:L.dropWhile qb2=L[(L.takeWhile qb2).length] :: L.drop ((L.takeWhile qb2).length+1):=by rw [hdw];exact List.drop_eq_getElem_cons hq'
   by_cases h46:L[(L.takeWhile qb2).length]=46
   ·have hN:(ql5 L).length=(L.takeWhile qb2).length+(1+dgN (ba (L.drop ((L.takeWhile qb2).length+1)))):=by
     unfold ql5;rw [hcons,h46,if_pos (by simp),List.tail_cons,Ar,AK,qo9];omega
    obtain⟨e1,e2⟩:=qt11 L _ hN;exact qd23 b B (L.takeWhile qb2).length (dgN (ba (L.drop ((L.takeWhile qb2).length+1)))) (ba L) (ba (L.drop ((L.takeWhile qb2).length+1))) c l w h hb hB hl hsz hdg (by rw [← hdg];exact hpos) (by rw [← hdg];exact hq) h46 (by rw [qv5 _ _ (by rw [qs1];omega),qe1]) rfl _ _ e1 e2
   ·have hN:(ql5 L).length=(L.takeWhile qb2).length:=by
     unfold ql5;rw [hcons,if_neg (by rw [List.head?_cons];intro q;exact h46 (Ay.inj q))]
    obtain⟨e1,e2⟩:=qt11 L _ hN;exact qq19 b B (L.takeWhile qb2).length (ba L) c l w h hb hB hl hsz hdg (by rw [← hdg];exact hpos) (by rw [← hdg];exact hq) h46 _ _ e1 e2
  ·have hdn:L.dropWhile qb2= []:=by rw [hdw];exact List.drop_eq_nil_of_le (by rw [← hdg,← qs1 L];omega)
   have hN:(ql5 L).length=(L.takeWhile qb2).length:=by
    unfold ql5;rw [hdn,if_neg (by simp)]
   obtain⟨e1,e2⟩:=qt11 L _ hN;exact qp19 b B (L.takeWhile qb2).length (ba L) c l w h hb hB hl hsz hdg (by rw [← hdg];exact hpos) (by rw [← hdg];exact hq) _ _ e1 e2
 ·have h0:dgN (ba (c :: t))=0:=by rw [qo9,BE,if_neg hdc];rfl
  by_cases hc:c=46
  ·by_cases ht:dgN (ba t)=0
   ·have hn:¬ qq16 (c :: t)=true:=by
     unfold qq16;simp only [hdc,Bool.false_or,AF];rintro⟨_,hx⟩
     cases t with
     | nil=>cases hx
     | cons d t=>rw [qo9,BE,if_pos hx]at ht;simp at ht
    rw [if_neg hn];exact qv15 h (qo16 b B _ _ (ba t) c l w h hsz hd h0 hc rfl ht)
   ·have hn:qq16 (c :: t)=true:=by
     unfold qq16;rw [hc]
     cases t with
     | nil=>exact absurd rfl ht
     | cons d t=>
      cases hx:qb2 d with
      | true=>simp [hx]
      | false=>rw [qo9,BE,if_neg (by simp [hx])]at ht;exact absurd rfl ht
    rw [if_pos hn];apply num_wp
    have hN:(ql5 (c :: t)).length=1+dgN (ba t):=by
     unfold ql5;rw [List.dropWhile_cons,if_neg hdc,BE,if_neg hdc,hc,if_pos (by rfl),qo9];simp;omega
    obtain⟨e1,e2⟩:=qt11 (c :: t) _ hN;exact qe23 b B 0 (dgN (ba t)) _ (ba t) c l w h hb hB hl hsz hd h0 hc rfl (by omega) _ _ e1 e2
  ·have hn:¬ qq16 (c :: t)=true:=by
    unfold qq16;simp [hdc,hc]
   rw [if_neg hn];exact qv15 h (qp16 b B _ (ba t) c l w h hsz hd h0 hc)
end Go.Proofs.YtocdckniokhbbaaGreatDoor.LexL
