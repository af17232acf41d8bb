import Derived.Test.YtocdckniokhbbaaGreatDoorZkZz
import Derived.Test.YtocdckniokhbbaaGreatDoorZkFc
import Derived.Test.YtocdckniokhbbaaGreatDoorZkPSx0
import Derived.Test.YtocdckniokhbbaaGreatDoorZkPSx2
import Derived.Test.YtocdckniokhbbaaGreatDoorZkPFx1
set_option linter.unusedVariables false
set_option linter.unusedSimpArgs false
open Go.Lib renaming indexByte→BG
open Go.Value renaming string→Ac,bool→Ae,int→Aa,slice→Ad
open Go.Proofs.Tryz renaming prog→Aj,ntmps112→Cj,func112→Cn,ntmps63→Cl
open Go.IntKind renaming i64→Ab
open Go.Obj renaming cells→Af
open Nat renaming le_refl→Ag
open Go.RowKit.Below renaming refl→Ao
open List renaming getElem?_eq_getElem→AG
open Option renaming some→Ay
open Bool renaming false_and→AN,true_and→AL
open Go.ByteArray renaming toList_eq→Aq
set_option maxHeartbeats 8000000
set_option maxRecDepth 100000
namespace Go.Proofs.YtocdckniokhbbaaGreatDoor.Syn
open Go.RowKit Go.Shelf YtocdckniokhbbaaGreatDoorW.PrintWords YtocdckniokhbbaaGreatDoorW.PrintLast YtocdckniokhbbaaGreatDoorW.PrintMore CharB SpanA FigD FigI LexA LexF
theorem qr15:∀ (l:List UInt8) (c:UInt8),decide (0≤BG l c)=l.contains c
 | [],c=>rfl
 | b :: l,c=>by
  have ih:=qr15 l c;have hg:=Lib.indexByte_ge l c;rw [List.contains_cons,← ih];rw [show BG (b :: l) c=if(b == c)=true then 0 else if(BG l c == -1)=true then -1 else BG l c+1 from rfl];by_cases h:b=c
  ·subst h;simp
  ·have h1:(b == c)=false:=by simpa using h
   have h2:(c == b)=false:=by simpa using fun e=>h e.symm
   rw [h1,h2,if_neg (by simp),Bool.false_or];by_cases h3:BG l c= -1
   ·rw [h3];rfl
   ·have h4:(BG l c == -1)=false:=by simpa using h3
    rw [h4,if_neg (by simp)];have a1:0≤BG l c:=by omega
    have a2:0≤BG l c+1:=by omega
    simp [a1,a2]
theorem qv10 (s:ByteArray) (w:World) (hT:qz5 w) (hs:s.size≤9223372036854775807):Calls Aj 64 #[Ac s] w fun e w'=>e= .returned (Ae (qe6 s.data.toList))∧Below w.heap.size w w':=by
 have c1:=qp5 s w hs hT;have c2:=fun W=>Tryz.strings_Contains_one s 34 W;have c3:=fun W=>Tryz.strings_Contains_one s 39 W;simp only [qr15]at c2 c3;unfold qe6;rw [qt1];clear hT;generalize qc10 s=q1 at *;generalize s.data.toList.contains 34=q2 at *;generalize s.data.toList.contains 39=q3 at *;have C2:=Aside0.mk c2;have C3:=Aside0.mk c3;clear c2 c3
 cases q1 with
 | false=>
  go_enter Tryz.func64,Tryz.ntmps64;go_wp2_with fail
  refine c1.mono ?_;rintro e w1 ⟨rfl,b1⟩;go_wp2_with fail
  go_ret;exact⟨rfl,b1⟩
 | true=>
  cases q2 with
  | false=>
   go_enter Tryz.func64,Tryz.ntmps64;go_wp2_with fail
   refine c1.mono ?_;rintro e w1 ⟨rfl,b1⟩;go_wp2_with fail
   refine(C2.out _).mono ?_;rintro e w2 ⟨rfl,rfl⟩;go_wp2_with fail
   go_ret;exact⟨rfl,b1⟩
  | true=>
   go_enter Tryz.func64,Tryz.ntmps64;go_wp2_with fail
   refine c1.mono ?_;rintro e w1 ⟨rfl,b1⟩;go_wp2_with fail
   refine(C2.out _).mono ?_;rintro e w2 ⟨rfl,rfl⟩;go_wp2_with fail
   refine(C3.out _).mono ?_;rintro e w2 ⟨rfl,rfl⟩;go_wp2_with fail
   go_ret;exact⟨rfl,b1⟩
theorem qp14 (op:Int) (s:ByteArray) (v t:Int) (b:Bool) (A1:Option Addr) (n1 c1:Nat) (A2:Option Addr) (n2 c2:Nat) (x y z:Bool) (w:World):Calls Aj 62 #[.agg #[Aa Ab op,Ac s,Aa Ab v,Aa Ab t,Ae b,Ad A1 n1 c1,Ad A2 n2 c2],Ae x,Ae y,Ae z] w fun e w'=>e= .returned (Ae (qr3 s.toList v t b n2 x y z))∧Below w.heap.size w w':=by
 have B1:=Aside0.mk ((Ao w.heap.size w).alloc (Ag _) (Af #[Aa Ab op,Ac s,Aa Ab v,Aa Ab t,Ae b,Ad A1 n1 c1,Ad A2 n2 c2] 28));have hn:((n2:Int) == 0)=(n2 == 0):=by cases n2<;>rfl
 have HN:=Aside0.mk hn;clear hn;go_enter Tryz.func62,Tryz.ntmps62;go_wp2_with fail
 all_goals
  go_ret;refine⟨?_,?_⟩
  ·simp_all [qr3]
   try exact HN.out
  ·first | exact B1.out | (simp_all;exact B1.out)
end Go.Proofs.YtocdckniokhbbaaGreatDoor.Syn
namespace Go.Proofs.YtocdckniokhbbaaGreatDoor.Syn
open Go.RowKit Go.Shelf YtocdckniokhbbaaGreatDoorW.PrintWords YtocdckniokhbbaaGreatDoorW.PrintLast YtocdckniokhbbaaGreatDoorW.PrintMore CharB SpanA FigD FigI LexA LexF
def RtC (x:Ex):Prop:=∀ (w:World) (F:Nat→Prop) (op:Int) (s:ByteArray) (t v:Int) (b:Bool) (A1:Option Addr) (n1 c1:Nat) (A2:Option Addr) (n2 c2:Nat),qz5 w→RepE F w x [Aa Ab op,Ac s,Aa Ab t,Aa Ab v,Ae b,Ad A1 n1 c1,Ad A2 n2 c2]→wfE x →
 Calls Aj 37 #[.agg #[Aa Ab op,Ac s,Aa Ab t,Aa Ab v,Ae b,Ad A1 n1 c1,Ad A2 n2 c2]] w (fun e w'=>e= .returned (Ae (qt3 x))∧Below w.heap.size w w')
theorem qg7 (l:List Ex) (hl:∀ x ∈ l,RtC x) (w:World) (hT:qz5 w) (F:Nat→Prop) (A:Option Addr) (cap:Nat) (xs:List Value) (hR:RepR F w l xs) (hW:Row F w A xs) (hw:wfL l) (hlen:l.length≤maxLen) :
  Calls Aj 68 #[Ad A l.length cap] w (fun e w'=>e= .returned (Ae (qx9 l))∧Below w.heap.size w w'):=by
 have HL:=Aside0.mk hl;have HR:=Aside0.mk hR;have HW:=Aside0.mk hW;have HWf:=Aside0.mk hw;have HT:=Aside0.mk hT;have HLen:=Aside0.mk (show l.length≤9223372036854775807 by unfold maxLen at hlen;omega);have HBs:=Aside0.mk (Ao w.heap.size w);clear hl hR hW hw hlen hT;obtain⟨R,hR0⟩:∃ R,qx9 l=R:=⟨_,rfl⟩;rw [hR0];have HQs:Aside0 (qx9 (l.drop 0)=R):=⟨za4⟩;clear hR0;go_enter Tryz.func68,Tryz.ntmps68;go_wp2_with fail
 go_loopg [7] l.length (fun kq v7 w'=>∃ i:Nat,v7= Aa Ab (i:Int)∧Aside0 (kq+i=l.length)∧Aside0 (Below w.heap.size w w')∧Aside0 (qx9 (l.drop i)=R))
 case atStart=>exact⟨0,rfl,⟨rfl⟩,HBs,HQs⟩
 case round=>
  obtain⟨i,rfl,HI,HBr,HQ⟩:=hrel;clear HBs HQs;by_cases hi:i<l.length
  ·obtain⟨x,hix⟩:∃ x,l[i]?=some x:=⟨_,AG hi⟩;obtain⟨a,opx,sx,tx,vx,bx,A1x,n1x,c1x,A2x,n2x,c2x,rfl,hFa,hba,hRx,x0,x1,x2,x3,x4,x5,x6⟩:=Row.exp (HR.out.keeps (Keeps.of_below HBr.out)) (HW.out.keeps (Keeps.of_below HBr.out)) i x hix;have hlt:decide ((i:Int)<(l.length:Int))=true:=by simp;omega
   have h0i:(0:Int)≤(i:Int):=by omega
   have hil:(i:Int)<(l.length:Int):=by omega
   have hdrop:l.drop i=x :: l.drop (i+1):=by rw [List.drop_eq_getElem_cons hi];congr 1;exact Ay.inj ((AG hi).symm.trans hix)
   have hQ:=HQ.out;rw [hdrop]at hQ;have hmem:x ∈ l:=List.mem_of_getElem? hix;have hw1:wrap64 ((i:Int)+1)=((i+1:Nat):Int):=by have:=HLen.out;unfold wrap64;omega
   have HB2':=Aside0.mk (HBr.out.alloc HBr.out.size (Af #[Aa Ab opx,Ac sx,Aa Ab tx,Aa Ab vx,Ae bx,Ad A1x n1x c1x,Ad A2x n2x c2x] 28));have hc:=HL.out x hmem _ F opx sx tx vx bx A1x n1x c1x A2x n2x c2x (qj1 HT.out HB2'.out) (hRx.keeps (Keeps.of_below ((Ao wr.heap.size wr).alloc (Ag _) (Af #[Aa Ab opx,Ac sx,Aa Ab tx,Aa Ab vx,Ae bx,Ad A1x n1x c1x,Ad A2x n2x c2x] 28)))) (qn6 HWf.out hmem);clear hdrop hmem HQ hRx;rw [qx9]at hQ
   cases hq:qt3 x with
   | false=>
    rw [hq]at hQ hc;rw [AN]at hQ;subst hQ;clear hq;go_wp2_with fail
    refine hc.mono ?_;rintro e w6 ⟨rfl,b6⟩;have HB9:=Aside0.mk (HB2'.out.trans (b6.mono HB2'.out.size));clear b6 hc;go_wp2_with fail
    go_ret;exact⟨rfl,HB9.out⟩
   | true=>
    rw [hq]at hQ hc;rw [AL]at hQ;have HQ9:=Aside0.mk hQ;clear hq hQ;go_wp2_with fail
    refine hc.mono ?_;rintro e w6 ⟨rfl,b6⟩;have HB9:=Aside0.mk (HB2'.out.trans (b6.mono HB2'.out.size));clear b6 hc;go_wp2_with fail
    obtain⟨g2,rfl⟩:∃ g2,gk=g2+1:=⟨gk - 1,zan⟩;go_roundg g2
    case measure=>omega
    case rel=>exact⟨i+1,congrArg (Value.int .i64) hw1,⟨zan⟩,HB9,HQ9⟩
  ·have hlt:decide ((i:Int)<(l.length:Int))=false:=by simp;omega
   have hlt2:decide (i<l.length)=false:=by simp;omega
   have hQ:=HQ.out;rw [List.drop_eq_nil_of_le (by omega),qx9]at hQ;subst hQ;clear HQ hi;go_wp2_with fail
   go_ret;exact⟨rfl,HBr.out⟩
theorem ax_name (ax:Int):∃ b,PS.axis_Name.f ax=some b∧b.toList.isEmpty= !(decide (1≤ax) && decide (ax≤12)):=by
 by_cases h:1≤ax∧ax≤12
 ·have hh:ax=1∨ax=2∨ax=3∨ax=4∨ax=5∨ax=6∨ax=7∨ax=8∨ax=9∨ax=10∨ax=11∨ax=12:=by omega
  rcases hh with rfl | rfl | rfl | rfl | rfl | rfl | rfl | rfl | rfl | rfl | rfl | rfl<;>exact⟨_,rfl,by rw [Aq];rfl⟩
 ·refine⟨⟨#[]⟩,?_,?_⟩
  ·unfold PS.axis_Name.f
   repeat rw [if_neg (by omega)]
  ·rw [Aq];have:(decide (1≤ax) && decide (ax≤12))=false:=by simp;omega
   rw [this];rfl
theorem qu24 (k:Int) (n:ByteArray) (h:Bool):PS.axis_Right.f k n h=some (qo12 k n.toList h):=by
 unfold PS.axis_Right.f qo12
 cases hn:n.toList with
 | nil=>cases h<;>(repeat' split)<;>simp_all
 | cons a l=>cases h<;>(repeat' split)<;>simp_all
theorem qk7 (ax kd:Int) (nm:ByteArray) (hs:Bool) (A1:Option Addr) (l:List Ex) (c1:Nat) (w:World) (hT:qz5 w) (hnm:nm.size≤9223372036854775807) (hall:∀ W,Below w.heap.size w W→Calls Aj 68 #[Ad A1 l.length c1] W (fun e w'=>e= .returned (Ae (qx9 l))∧Below W.heap.size W w')) :
  Calls Aj 112 #[.agg #[Aa Ab ax,Aa Ab kd,Ac nm,Ae hs,Ad A1 l.length c1]] w (fun e w'=>e= .returned (Ae (decide (1≤ax) && decide (ax≤12) && qo12 kd nm.toList hs && !(kd == 1 && !qf4 nm || kd == 6 && !qe6 nm.toList) && qx9 l))∧Below w.heap.size w w'):=by
 obtain⟨bn,hbn,hbe⟩:=ax_name ax;have cN:=fun W=>PS.axis_Name.calls ax bn W hbn;have cR:=fun W=>PS.axis_Right.calls kd nm hs _ W (qu24 kd nm hs);have HB1:=Aside0.mk ((Ao w.heap.size w).alloc (Ag _) (Af #[Aa Ab ax,Aa Ab kd,Ac nm,Ae hs,Ad A1 l.length c1] 73));have cNa:=fun W (hb:Below w.heap.size w W)=>qu5 nm W (qj1 hT hb);have cTx:=fun W (hb:Below w.heap.size w W)=>qv10 nm W (qj1 hT hb) hnm;rw [← Aq]at cTx;have HS1:=Aside0.mk (qr w (Af #[Aa Ab ax,Aa Ab kd,Ac nm,Ae hs,Ad A1 l.length c1] 73));have CNa:=Aside0.mk cNa;have CTx:=Aside0.mk cTx;have HAll:=Aside0.mk hall;clear cNa cTx hall hT hbn;replace cN:=fun W=>(cN W).mono fun e w' h=>(show e= .returned (Ac bn)∧Below W.heap.size W w' from⟨h.1,h.2.below⟩)
 cases hq1:(decide (1≤ax) && decide (ax≤12))with
 | false=>
  rw [hq1]at hbe;have hbe2:bn.toList.isEmpty=true:=hbe;simp only [AN];clear hbe hq1;go_enter Cn,Cj;go_wp2_with fail
  refine(cN _).mono ?_;rintro e w2 ⟨rfl,b2⟩;have HB2:=Aside0.mk (HB1.out.trans (b2.mono HB1.out.size));have HS2:=Aside0.mk (qn HS1.out b2);clear b2;obtain⟨s2c0,s2c1,s2c2,s2c3,s2c4⟩:=fc5 HS2.out;go_wp2_with fail
  go_ret;exact⟨rfl,HB2.out⟩
 | true=>
  rw [hq1]at hbe;have hbe2:bn.toList.isEmpty=false:=hbe;simp only [AL];clear hbe hq1;generalize qo12 kd nm.toList hs=q2 at cR ⊢
  cases q2 with
  | false=>
   simp only [AN];go_enter Cn,Cj;go_wp2_with fail
   refine(cN _).mono ?_;rintro e w2 ⟨rfl,b2⟩;have HB2:=Aside0.mk (HB1.out.trans (b2.mono HB1.out.size));have HS2:=Aside0.mk (qn HS1.out b2);clear b2;obtain⟨s2c0,s2c1,s2c2,s2c3,s2c4⟩:=fc5 HS2.out;go_wp2_with fail
   refine(cR _).mono ?_;rintro e w3 ⟨rfl,b3⟩;have HB3:=Aside0.mk (HB2.out.trans (b3.mono HB2.out.size));have HS3:=Aside0.mk (qn HS2.out b3);clear b3;obtain⟨s3c0,s3c1,s3c2,s3c3,s3c4⟩:=fc5 HS3.out;go_wp2_with fail
   go_ret;exact⟨rfl,HB3.out⟩
  | true=>
   simp only [AL];by_cases k1:kd=1
   ·have d1:(kd == 1)=true:=by simpa using k1
    have d6:(kd == 6)=false:=by simp;omega
    rw [d1,d6];simp only [AL,AN,Bool.or_false,Bool.not_not];clear k1;generalize qf4 nm=q3 at *
    cases q3 with
    | false=>
     simp only [AN];go_enter Cn,Cj;go_wp2_with fail
     refine(cN _).mono ?_;rintro e w2 ⟨rfl,b2⟩;have HB2:=Aside0.mk (HB1.out.trans (b2.mono HB1.out.size));have HS2:=Aside0.mk (qn HS1.out b2);clear b2;obtain⟨s2c0,s2c1,s2c2,s2c3,s2c4⟩:=fc5 HS2.out;go_wp2_with fail
     refine(cR _).mono ?_;rintro e w3 ⟨rfl,b3⟩;have HB3:=Aside0.mk (HB2.out.trans (b3.mono HB2.out.size));have HS3:=Aside0.mk (qn HS2.out b3);clear b3;obtain⟨s3c0,s3c1,s3c2,s3c3,s3c4⟩:=fc5 HS3.out;go_wp2_with fail
     clear s2c0 s2c1 s2c2 s2c3 s2c4;refine(CNa.out _ HB3.out).mono ?_;rintro e w4 ⟨rfl,b4⟩;have HB4:=Aside0.mk (HB3.out.trans (b4.mono HB3.out.size));have HS4:=Aside0.mk (qn HS3.out b4);clear b4;obtain⟨s4c0,s4c1,s4c2,s4c3,s4c4⟩:=fc5 HS4.out;go_wp2_with fail
     go_ret;exact⟨rfl,HB4.out⟩
    | true=>
     simp only [AL];go_enter Cn,Cj;go_wp2_with fail
     refine(cN _).mono ?_;rintro e w2 ⟨rfl,b2⟩;have HB2:=Aside0.mk (HB1.out.trans (b2.mono HB1.out.size));have HS2:=Aside0.mk (qn HS1.out b2);clear b2;obtain⟨s2c0,s2c1,s2c2,s2c3,s2c4⟩:=fc5 HS2.out;go_wp2_with fail
     refine(cR _).mono ?_;rintro e w3 ⟨rfl,b3⟩;have HB3:=Aside0.mk (HB2.out.trans (b3.mono HB2.out.size));have HS3:=Aside0.mk (qn HS2.out b3);clear b3;obtain⟨s3c0,s3c1,s3c2,s3c3,s3c4⟩:=fc5 HS3.out;go_wp2_with fail
     clear s2c0 s2c1 s2c2 s2c3 s2c4;refine(CNa.out _ HB3.out).mono ?_;rintro e w4 ⟨rfl,b4⟩;have HB4:=Aside0.mk (HB3.out.trans (b4.mono HB3.out.size));have HS4:=Aside0.mk (qn HS3.out b4);clear b4;obtain⟨s4c0,s4c1,s4c2,s4c3,s4c4⟩:=fc5 HS4.out;go_wp2_with fail
     clear s3c0 s3c1 s3c2 s3c3 s3c4;refine(HAll.out _ HB4.out).mono ?_;rintro e w9 ⟨rfl,b9⟩;have HB9:=Aside0.mk (HB4.out.trans (b9.mono HB4.out.size));have HS9:=Aside0.mk (qn HS4.out b9);clear b9;obtain⟨s9c0,s9c1,s9c2,s9c3,s9c4⟩:=fc5 HS9.out;go_wp2_with fail
     go_ret;exact⟨rfl,HB9.out⟩
   ·have d1:(kd == 1)=false:=by simpa using k1
    by_cases k6:kd=6
    ·have d6:(kd == 6)=true:=by simpa using k6
     rw [d1,d6];simp only [AL,AN,Bool.false_or,Bool.not_not];clear k1 k6;generalize qe6 nm.toList=q3 at *
     cases q3 with
     | false=>
      simp only [AN];go_enter Cn,Cj;go_wp2_with fail
      refine(cN _).mono ?_;rintro e w2 ⟨rfl,b2⟩;have HB2:=Aside0.mk (HB1.out.trans (b2.mono HB1.out.size));have HS2:=Aside0.mk (qn HS1.out b2);clear b2;obtain⟨s2c0,s2c1,s2c2,s2c3,s2c4⟩:=fc5 HS2.out;go_wp2_with fail
      refine(cR _).mono ?_;rintro e w3 ⟨rfl,b3⟩;have HB3:=Aside0.mk (HB2.out.trans (b3.mono HB2.out.size));have HS3:=Aside0.mk (qn HS2.out b3);clear b3;obtain⟨s3c0,s3c1,s3c2,s3c3,s3c4⟩:=fc5 HS3.out;go_wp2_with fail
      clear s2c0 s2c1 s2c2 s2c3 s2c4;refine(CTx.out _ HB3.out).mono ?_;rintro e w4 ⟨rfl,b4⟩;have HB4:=Aside0.mk (HB3.out.trans (b4.mono HB3.out.size));have HS4:=Aside0.mk (qn HS3.out b4);clear b4;obtain⟨s4c0,s4c1,s4c2,s4c3,s4c4⟩:=fc5 HS4.out;go_wp2_with fail
      go_ret;exact⟨rfl,HB4.out⟩
     | true=>
      simp only [AL];go_enter Cn,Cj;go_wp2_with fail
      refine(cN _).mono ?_;rintro e w2 ⟨rfl,b2⟩;have HB2:=Aside0.mk (HB1.out.trans (b2.mono HB1.out.size));have HS2:=Aside0.mk (qn HS1.out b2);clear b2;obtain⟨s2c0,s2c1,s2c2,s2c3,s2c4⟩:=fc5 HS2.out;go_wp2_with fail
      refine(cR _).mono ?_;rintro e w3 ⟨rfl,b3⟩;have HB3:=Aside0.mk (HB2.out.trans (b3.mono HB2.out.size));have HS3:=Aside0.mk (qn HS2.out b3);clear b3;obtain⟨s3c0,s3c1,s3c2,s3c3,s3c4⟩:=fc5 HS3.out;go_wp2_with fail
      clear s2c0 s2c1 s2c2 s2c3 s2c4;refine(CTx.out _ HB3.out).mono ?_;rintro e w4 ⟨rfl,b4⟩;have HB4:=Aside0.mk (HB3.out.trans (b4.mono HB3.out.size));have HS4:=Aside0.mk (qn HS3.out b4);clear b4;obtain⟨s4c0,s4c1,s4c2,s4c3,s4c4⟩:=fc5 HS4.out;go_wp2_with fail
      clear s3c0 s3c1 s3c2 s3c3 s3c4;refine(HAll.out _ HB4.out).mono ?_;rintro e w9 ⟨rfl,b9⟩;have HB9:=Aside0.mk (HB4.out.trans (b9.mono HB4.out.size));have HS9:=Aside0.mk (qn HS4.out b9);clear b9;obtain⟨s9c0,s9c1,s9c2,s9c3,s9c4⟩:=fc5 HS9.out;go_wp2_with fail
      go_ret;exact⟨rfl,HB9.out⟩
    ·have d6:(kd == 6)=false:=by simpa using k6
     rw [d1,d6];simp only [AN,Bool.or_self,Bool.not_false,AL];clear k1 k6;go_enter Cn,Cj;go_wp2_with fail
     refine(cN _).mono ?_;rintro e w2 ⟨rfl,b2⟩;have HB2:=Aside0.mk (HB1.out.trans (b2.mono HB1.out.size));have HS2:=Aside0.mk (qn HS1.out b2);clear b2;obtain⟨s2c0,s2c1,s2c2,s2c3,s2c4⟩:=fc5 HS2.out;go_wp2_with fail
     refine(cR _).mono ?_;rintro e w3 ⟨rfl,b3⟩;have HB3:=Aside0.mk (HB2.out.trans (b3.mono HB2.out.size));have HS3:=Aside0.mk (qn HS2.out b3);clear b3;obtain⟨s3c0,s3c1,s3c2,s3c3,s3c4⟩:=fc5 HS3.out;go_wp2_with fail
     clear s2c0 s2c1 s2c2 s2c3 s2c4;refine(HAll.out _ HB3.out).mono ?_;rintro e w9 ⟨rfl,b9⟩;have HB9:=Aside0.mk (HB3.out.trans (b9.mono HB3.out.size));have HS9:=Aside0.mk (qn HS3.out b9);clear b9;obtain⟨s9c0,s9c1,s9c2,s9c3,s9c4⟩:=fc5 HS9.out;go_wp2_with fail
     go_ret;exact⟨rfl,HB9.out⟩
end Go.Proofs.YtocdckniokhbbaaGreatDoor.Syn
namespace Go.Proofs.YtocdckniokhbbaaGreatDoor.Syn
open Go.RowKit Go.Shelf YtocdckniokhbbaaGreatDoorW.PrintWords YtocdckniokhbbaaGreatDoorW.PrintLast YtocdckniokhbbaaGreatDoorW.PrintMore CharB SpanA FigD FigI LexA LexF
theorem RepX.inv5 {F:Nat→Prop} {w:World} {axis kind:Int} {name:List UInt8} {has:Bool} {ps:List Ex} {ax kx:Int} {sx:ByteArray} {bx:Bool} {A1x:Option Addr} {n1x c1x:Nat} (h:RepX F w (.mk axis kind name has ps) [Aa Ab ax,Aa Ab kx,Ac sx,Ae bx,Ad A1x n1x c1x]):axis=ax∧kind=kx∧sx=ba name∧has=bx∧n1x=ps.length∧ ∃ zs,RepR F w ps zs∧Row F w A1x zs:=by
 simp only [RepX]at h;obtain⟨K,h1,A,c,zs,rfl,_,h3,h4⟩:=h;simp only [List.cons.injEq,Value.int.injEq,Value.string.injEq,Value.bool.injEq,Value.slice.injEq,and_true,true_and]at h1;obtain⟨rfl,rfl,rfl,rfl,rfl,rfl,rfl⟩:=h1;exact⟨rfl,rfl,rfl,rfl,rfl,zs,h3,h4⟩
theorem qz14:∀ {ss:List St} {axis kind:Int} {name:List UInt8} {has:Bool} {ps:List Ex},wfS ss→St.mk axis kind name has ps ∈ ss→name.length≤maxLen∧ps.length≤maxLen∧wfL ps
 | x :: ss,axis,kind,name,has,ps,h,hm=>by
  rcases List.mem_cons.1 hm with rfl | hm
  ·have h1:=h.1;simp only [wfX]at h1;exact⟨h1.2.2.1,h1.2.2.2.1,h1.2.2.2.2⟩
  ·exact qz14 h.2 hm
theorem qi16 (ss:List St) (hs:∀ st ∈ ss,∀ x ∈ qq11 st,RtC x) (w:World) (hT:qz5 w) (F:Nat→Prop) (op:Int) (s:ByteArray) (t v:Int) (b:Bool) (A1:Option Addr) (n1 c1:Nat) (A2:Option Addr) (c2:Nat) (ys:List Value) (hR:RepT F w ss ys) (hW:Row F w A2 ys) (hws:wfS ss) (hlen:ss.length≤maxLen) :
  Calls Aj 63 #[.agg #[Aa Ab op,Ac s,Aa Ab t,Aa Ab v,Ae b,Ad A1 n1 c1,Ad A2 ss.length c2]] w (fun e w'=>e= .returned (Ae (qi5 b n1 ss.length && qz2 ss))∧Below w.heap.size w w'):=by
 have HS:=Aside0.mk hs;have HR:=Aside0.mk hR;have HW:=Aside0.mk hW;have HWs:=Aside0.mk hws;have HT:=Aside0.mk hT;have HLen:=Aside0.mk (show ss.length≤9223372036854775807 by unfold maxLen at hlen;omega);clear hs hR hW hws hlen hT;by_cases hn:1<n1
 ·have e:qi5 b n1 ss.length=false:=by unfold qi5;simp [hn]
  rw [e];have d1:decide ((n1:Int)>1)=true:=by simp;omega
  have d2:decide ((1:Int)<(n1:Int))=true:=by simp;omega
  have d3:decide (1<n1)=true:=by simpa using hn
  clear hn e;simp only [AN];have HB1:=Aside0.mk ((Ao w.heap.size w).alloc (Ag _) (Af #[Aa Ab op,Ac s,Aa Ab t,Aa Ab v,Ae b,Ad A1 n1 c1,Ad A2 ss.length c2] 28));go_enter Tryz.func63,Cl;go_wp2_with fail
  go_ret;exact⟨rfl,HB1.out⟩
 have hn':n1=0∨n1=1:=by omega
 clear hn
 rcases hn' with rfl | rfl
 ·by_cases h0:ss.length=0
  ·cases b with
   | false=>
    rw [show qi5 false 0 ss.length=false from by unfold qi5;simp [h0]];have z1:((ss.length:Int) == 0)=true:=by simpa using h0
    have z2:(ss.length == 0)=true:=by simpa using h0
    clear h0;simp only [AN];have HB1:=Aside0.mk ((Ao w.heap.size w).alloc (Ag _) (Af #[Aa Ab op,Ac s,Aa Ab t,Aa Ab v,Ae false,Ad A1 0 c1,Ad A2 ss.length c2] 28));go_enter Tryz.func63,Cl;go_wp2_with fail
    go_ret;exact⟨rfl,HB1.out⟩
   | true=>
    rw [show qi5 true 0 ss.length=true from by unfold qi5;simp];have z1:((ss.length:Int) == 0)=true:=by simpa using h0
    have z2:(ss.length == 0)=true:=by simpa using h0
    clear h0;simp only [AL];obtain⟨R,hR0⟩:∃ R,qz2 ss=R:=⟨_,rfl⟩;rw [hR0];have HQs:Aside0 (qz2 (ss.drop 0)=R):=⟨za4⟩;have HBs:=Aside0.mk ((Ao w.heap.size w).alloc (Ag _) (Af #[Aa Ab op,Ac s,Aa Ab t,Aa Ab v,Ae true,Ad A1 0 c1,Ad A2 ss.length c2] 28));clear hR0;go_enter Tryz.func63,Cl;go_wp2_with fail
    go_loopg [39] ss.length (fun kq v39 w'=>∃ i:Nat,v39= Aa Ab (i:Int)∧Aside0 (kq+i=ss.length)∧Aside0 (Below w.heap.size w w')∧Aside0 (qz2 (ss.drop i)=R))
    case atStart=>exact⟨0,rfl,⟨rfl⟩,HBs,HQs⟩
    case round=>
     obtain⟨i,rfl,HI,HBr,HQ⟩:=hrel;clear HBs HQs;by_cases hi:i<ss.length
     ·obtain⟨x,hix⟩:∃ x,ss[i]?=some x:=⟨_,AG hi⟩;obtain⟨a,ax,kx,sx,bx,A1x,n1x,c1x,rfl,hFa,hba,hRx,x0,x1,x2,x3,x4⟩:=Row.st (HR.out.keeps (Keeps.of_below HBr.out)) (HW.out.keeps (Keeps.of_below HBr.out)) i x hix;have hlt:decide ((i:Int)<(ss.length:Int))=true:=by simp;omega
      have h0i:(0:Int)≤(i:Int):=by omega
      have hil:(i:Int)<(ss.length:Int):=by omega
      have hdrop:ss.drop i=x :: ss.drop (i+1):=by rw [List.drop_eq_getElem_cons hi];congr 1;exact Ay.inj ((AG hi).symm.trans hix)
      have hQ:=HQ.out;rw [hdrop]at hQ;have hmem:x ∈ ss:=List.mem_of_getElem? hix;have hw1:wrap64 ((i:Int)+1)=((i+1:Nat):Int):=by have:=HLen.out;unfold wrap64;omega
      obtain⟨axis,kind,name,has,ps⟩:=x;obtain⟨rfl,rfl,rfl,rfl,rfl,zs,hz1,hz2⟩:=hRx.inv5;have hwf:=qz14 HWs.out hmem;have HB2':=Aside0.mk (HBr.out.alloc HBr.out.size (Af #[Aa Ab axis,Aa Ab kind,Ac (ba name),Ae has,Ad A1x ps.length c1x] 73));have hc:=qk7 axis kind (ba name) has A1x ps c1x _ (qj1 HT.out HB2'.out) (by rw [qs1];have:=hwf.1;unfold maxLen at this;omega) (fun W hb=>qg7 ps (HS.out _ hmem) W (qj1 (qj1 HT.out HB2'.out) hb) F A1x c1x zs (hz1.keeps (Keeps.of_below (((Ao wr.heap.size wr).alloc (Ag _) _).trans (hb.mono (by simp))))) (hz2.keeps (Keeps.of_below (((Ao wr.heap.size wr).alloc (Ag _) _).trans (hb.mono (by simp))))) hwf.2.2 hwf.2.1);have hts:(ba name).toList=name:=by rw [Aq];exact qe1 name
      rw [hts]at hc;clear hdrop hmem HQ hRx hz1 hz2 hwf hts;rw [qz2,ql18]at hQ;generalize (decide (1≤axis) && decide (axis≤12) && qo12 kind name has && !(kind == 1 && !qf4 (ba name) || kind == 6 && !qe6 name) && qx9 ps)=q at hQ hc;generalize ba name=sx at *
      cases q with
      | false=>
       rw [AN]at hQ;subst hQ;go_wp2_with fail
       refine hc.mono ?_;rintro e w6 ⟨rfl,b6⟩;have HB9:=Aside0.mk (HB2'.out.trans (b6.mono HB2'.out.size));clear b6 hc;go_wp2_with fail
       go_ret;exact⟨rfl,HB9.out⟩
      | true=>
       rw [AL]at hQ;have HQ9:=Aside0.mk hQ;clear hQ;go_wp2_with fail
       refine hc.mono ?_;rintro e w6 ⟨rfl,b6⟩;have HB9:=Aside0.mk (HB2'.out.trans (b6.mono HB2'.out.size));clear b6 hc;go_wp2_with fail
       obtain⟨g2,rfl⟩:∃ g2,gk=g2+1:=⟨gk - 1,zan⟩;go_roundg g2
       case measure=>omega
       case rel=>exact⟨i+1,congrArg (Value.int .i64) hw1,⟨zan⟩,HB9,HQ9⟩
     ·have hlt:decide ((i:Int)<(ss.length:Int))=false:=by simp;omega
      have hlt2:decide (i<ss.length)=false:=by simp;omega
      have hQ:=HQ.out;rw [List.drop_eq_nil_of_le (by omega),qz2]at hQ;subst hQ;clear HQ hi;go_wp2_with fail
      go_ret;exact⟨rfl,HBr.out⟩
  ·rw [show qi5 b 0 ss.length=true from by unfold qi5;simp [h0]];have z1:((ss.length:Int) == 0)=false:=by simpa using h0
   have z2:(ss.length == 0)=false:=by simpa using h0
   clear h0;simp only [AL];obtain⟨R,hR0⟩:∃ R,qz2 ss=R:=⟨_,rfl⟩;rw [hR0];have HQs:Aside0 (qz2 (ss.drop 0)=R):=⟨za4⟩;have HBs:=Aside0.mk ((Ao w.heap.size w).alloc (Ag _) (Af #[Aa Ab op,Ac s,Aa Ab t,Aa Ab v,Ae b,Ad A1 0 c1,Ad A2 ss.length c2] 28));clear hR0;go_enter Tryz.func63,Cl;go_wp2_with fail
   go_loopg [39] ss.length (fun kq v39 w'=>∃ i:Nat,v39= Aa Ab (i:Int)∧Aside0 (kq+i=ss.length)∧Aside0 (Below w.heap.size w w')∧Aside0 (qz2 (ss.drop i)=R))
   case atStart=>exact⟨0,rfl,⟨rfl⟩,HBs,HQs⟩
   case round=>
    obtain⟨i,rfl,HI,HBr,HQ⟩:=hrel;clear HBs HQs;by_cases hi:i<ss.length
    ·obtain⟨x,hix⟩:∃ x,ss[i]?=some x:=⟨_,AG hi⟩;obtain⟨a,ax,kx,sx,bx,A1x,n1x,c1x,rfl,hFa,hba,hRx,x0,x1,x2,x3,x4⟩:=Row.st (HR.out.keeps (Keeps.of_below HBr.out)) (HW.out.keeps (Keeps.of_below HBr.out)) i x hix;have hlt:decide ((i:Int)<(ss.length:Int))=true:=by simp;omega
     have h0i:(0:Int)≤(i:Int):=by omega
     have hil:(i:Int)<(ss.length:Int):=by omega
     have hdrop:ss.drop i=x :: ss.drop (i+1):=by rw [List.drop_eq_getElem_cons hi];congr 1;exact Ay.inj ((AG hi).symm.trans hix)
     have hQ:=HQ.out;rw [hdrop]at hQ;have hmem:x ∈ ss:=List.mem_of_getElem? hix;have hw1:wrap64 ((i:Int)+1)=((i+1:Nat):Int):=by have:=HLen.out;unfold wrap64;omega
     obtain⟨axis,kind,name,has,ps⟩:=x;obtain⟨rfl,rfl,rfl,rfl,rfl,zs,hz1,hz2⟩:=hRx.inv5;have hwf:=qz14 HWs.out hmem;have HB2':=Aside0.mk (HBr.out.alloc HBr.out.size (Af #[Aa Ab axis,Aa Ab kind,Ac (ba name),Ae has,Ad A1x ps.length c1x] 73));have hc:=qk7 axis kind (ba name) has A1x ps c1x _ (qj1 HT.out HB2'.out) (by rw [qs1];have:=hwf.1;unfold maxLen at this;omega) (fun W hb=>qg7 ps (HS.out _ hmem) W (qj1 (qj1 HT.out HB2'.out) hb) F A1x c1x zs (hz1.keeps (Keeps.of_below (((Ao wr.heap.size wr).alloc (Ag _) _).trans (hb.mono (by simp))))) (hz2.keeps (Keeps.of_below (((Ao wr.heap.size wr).alloc (Ag _) _).trans (hb.mono (by simp))))) hwf.2.2 hwf.2.1);have hts:(ba name).toList=name:=by rw [Aq];exact qe1 name
     rw [hts]at hc;clear hdrop hmem HQ hRx hz1 hz2 hwf hts;rw [qz2,ql18]at hQ;generalize (decide (1≤axis) && decide (axis≤12) && qo12 kind name has && !(kind == 1 && !qf4 (ba name) || kind == 6 && !qe6 name) && qx9 ps)=q at hQ hc;generalize ba name=sx at *
     cases q with
     | false=>
      rw [AN]at hQ;subst hQ;go_wp2_with fail
      refine hc.mono ?_;rintro e w6 ⟨rfl,b6⟩;have HB9:=Aside0.mk (HB2'.out.trans (b6.mono HB2'.out.size));clear b6 hc;go_wp2_with fail
      go_ret;exact⟨rfl,HB9.out⟩
     | true=>
      rw [AL]at hQ;have HQ9:=Aside0.mk hQ;clear hQ;go_wp2_with fail
      refine hc.mono ?_;rintro e w6 ⟨rfl,b6⟩;have HB9:=Aside0.mk (HB2'.out.trans (b6.mono HB2'.out.size));clear b6 hc;go_wp2_with fail
      obtain⟨g2,rfl⟩:∃ g2,gk=g2+1:=⟨gk - 1,zan⟩;go_roundg g2
      case measure=>omega
      case rel=>exact⟨i+1,congrArg (Value.int .i64) hw1,⟨zan⟩,HB9,HQ9⟩
    ·have hlt:decide ((i:Int)<(ss.length:Int))=false:=by simp;omega
     have hlt2:decide (i<ss.length)=false:=by simp;omega
     have hQ:=HQ.out;rw [List.drop_eq_nil_of_le (by omega),qz2]at hQ;subst hQ;clear HQ hi;go_wp2_with fail
     go_ret;exact⟨rfl,HBr.out⟩
 ·cases b with
  | true=>
   rw [show qi5 true 1 ss.length=false from by unfold qi5;simp];simp only [AN];have HB1:=Aside0.mk ((Ao w.heap.size w).alloc (Ag _) (Af #[Aa Ab op,Ac s,Aa Ab t,Aa Ab v,Ae true,Ad A1 1 c1,Ad A2 ss.length c2] 28));go_enter Tryz.func63,Cl;go_wp2_with fail
   go_ret;exact⟨rfl,HB1.out⟩
  | false=>
   by_cases h0:ss.length=0
   ·rw [show qi5 false 1 ss.length=false from by unfold qi5;simp [h0]];have z1:((ss.length:Int) == 0)=true:=by simpa using h0
    have z2:(ss.length == 0)=true:=by simpa using h0
    clear h0;simp only [AN];have HB1:=Aside0.mk ((Ao w.heap.size w).alloc (Ag _) (Af #[Aa Ab op,Ac s,Aa Ab t,Aa Ab v,Ae false,Ad A1 1 c1,Ad A2 ss.length c2] 28));go_enter Tryz.func63,Cl;go_wp2_with fail
    go_ret;exact⟨rfl,HB1.out⟩
   ·rw [show qi5 false 1 ss.length=true from by unfold qi5;simp [h0]];have z1:((ss.length:Int) == 0)=false:=by simpa using h0
    have z2:(ss.length == 0)=false:=by simpa using h0
    clear h0;simp only [AL];obtain⟨R,hR0⟩:∃ R,qz2 ss=R:=⟨_,rfl⟩;rw [hR0];have HQs:Aside0 (qz2 (ss.drop 0)=R):=⟨za4⟩;have HBs:=Aside0.mk ((Ao w.heap.size w).alloc (Ag _) (Af #[Aa Ab op,Ac s,Aa Ab t,Aa Ab v,Ae false,Ad A1 1 c1,Ad A2 ss.length c2] 28));clear hR0;go_enter Tryz.func63,Cl;go_wp2_with fail
    go_loopg [39] ss.length (fun kq v39 w'=>∃ i:Nat,v39= Aa Ab (i:Int)∧Aside0 (kq+i=ss.length)∧Aside0 (Below w.heap.size w w')∧Aside0 (qz2 (ss.drop i)=R))
    case atStart=>exact⟨0,rfl,⟨rfl⟩,HBs,HQs⟩
    case round=>
     obtain⟨i,rfl,HI,HBr,HQ⟩:=hrel;clear HBs HQs;by_cases hi:i<ss.length
     ·obtain⟨x,hix⟩:∃ x,ss[i]?=some x:=⟨_,AG hi⟩;obtain⟨a,ax,kx,sx,bx,A1x,n1x,c1x,rfl,hFa,hba,hRx,x0,x1,x2,x3,x4⟩:=Row.st (HR.out.keeps (Keeps.of_below HBr.out)) (HW.out.keeps (Keeps.of_below HBr.out)) i x hix;have hlt:decide ((i:Int)<(ss.length:Int))=true:=by simp;omega
      have h0i:(0:Int)≤(i:Int):=by omega
      have hil:(i:Int)<(ss.length:Int):=by omega
      have hdrop:ss.drop i=x :: ss.drop (i+1):=by rw [List.drop_eq_getElem_cons hi];congr 1;exact Ay.inj ((AG hi).symm.trans hix)
      have hQ:=HQ.out;rw [hdrop]at hQ;have hmem:x ∈ ss:=List.mem_of_getElem? hix;have hw1:wrap64 ((i:Int)+1)=((i+1:Nat):Int):=by have:=HLen.out;unfold wrap64;omega
      obtain⟨axis,kind,name,has,ps⟩:=x;obtain⟨rfl,rfl,rfl,rfl,rfl,zs,hz1,hz2⟩:=hRx.inv5;have hwf:=qz14 HWs.out hmem;have HB2':=Aside0.mk (HBr.out.alloc HBr.out.size (Af #[Aa Ab axis,Aa Ab kind,Ac (ba name),Ae has,Ad A1x ps.length c1x] 73));have hc:=qk7 axis kind (ba name) has A1x ps c1x _ (qj1 HT.out HB2'.out) (by rw [qs1];have:=hwf.1;unfold maxLen at this;omega) (fun W hb=>qg7 ps (HS.out _ hmem) W (qj1 (qj1 HT.out HB2'.out) hb) F A1x c1x zs (hz1.keeps (Keeps.of_below (((Ao wr.heap.size wr).alloc (Ag _) _).trans (hb.mono (by simp))))) (hz2.keeps (Keeps.of_below (((Ao wr.heap.size wr).alloc (Ag _) _).trans (hb.mono (by simp))))) hwf.2.2 hwf.2.1);have hts:(ba name).toList=name:=by rw [Aq];exact qe1 name
      rw [hts]at hc;clear hdrop hmem HQ hRx hz1 hz2 hwf hts;rw [qz2,ql18]at hQ;generalize (decide (1≤axis) && decide (axis≤12) && qo12 kind name has && !(kind == 1 && !qf4 (ba name) || kind == 6 && !qe6 name) && qx9 ps)=q at hQ hc;generalize ba name=sx at *
      cases q with
      | false=>
       rw [AN]at hQ;subst hQ;go_wp2_with fail
       refine hc.mono ?_;rintro e w6 ⟨rfl,b6⟩;have HB9:=Aside0.mk (HB2'.out.trans (b6.mono HB2'.out.size));clear b6 hc;go_wp2_with fail
       go_ret;exact⟨rfl,HB9.out⟩
      | true=>
       rw [AL]at hQ;have HQ9:=Aside0.mk hQ;clear hQ;go_wp2_with fail
       refine hc.mono ?_;rintro e w6 ⟨rfl,b6⟩;have HB9:=Aside0.mk (HB2'.out.trans (b6.mono HB2'.out.size));clear b6 hc;go_wp2_with fail
       obtain⟨g2,rfl⟩:∃ g2,gk=g2+1:=⟨gk - 1,zan⟩;go_roundg g2
       case measure=>omega
       case rel=>exact⟨i+1,congrArg (Value.int .i64) hw1,⟨zan⟩,HB9,HQ9⟩
     ·have hlt:decide ((i:Int)<(ss.length:Int))=false:=by simp;omega
      have hlt2:decide (i<ss.length)=false:=by simp;omega
      have hQ:=HQ.out;rw [List.drop_eq_nil_of_le (by omega),qz2]at hQ;subst hQ;clear HQ hi;go_wp2_with fail
      go_ret;exact⟨rfl,HBr.out⟩
end Go.Proofs.YtocdckniokhbbaaGreatDoor.Syn
