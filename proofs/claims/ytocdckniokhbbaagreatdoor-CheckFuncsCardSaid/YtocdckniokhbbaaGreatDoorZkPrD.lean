import Derived.Test.YtocdckniokhbbaaGreatDoorZkZz
import Derived.Test.YtocdckniokhbbaaGreatDoorZkFc
import Derived.Test.YtocdckniokhbbaaGreatDoorZkPrC
import Derived.Test.YtocdckniokhbbaaGreatDoorZkFigC
set_option linter.unusedVariables false
set_option linter.unusedSimpArgs false
open Go.Value renaming int→Aa,string→Ac,slice→Ad,bool→Ae
open Go.IntKind renaming i64→Ab
open Go.Proofs.Tryz renaming prog→Aj,ntmps37→AY,func37→A6
open Go.Obj renaming cells→Af
open Nat renaming le_refl→Ag
open Go.RowKit.Below renaming refl→Ao
open Bool renaming true_and→AL,false_and→AN,eq_false_iff→AR
set_option maxHeartbeats 8000000
set_option maxRecDepth 100000
namespace Go.Proofs.YtocdckniokhbbaaGreatDoor.Syn
open Go.RowKit Go.Shelf YtocdckniokhbbaaGreatDoorW.PrintWords YtocdckniokhbbaaGreatDoorW.PrintLast YtocdckniokhbbaaGreatDoorW.PrintMore CharB SpanA FigD FigI LexA LexF
theorem qw18 (w:World) (op:Int) (s:ByteArray) (t v:Int) (b:Bool) (A1:Option Addr) (n1 c1:Nat) (A2:Option Addr) (n2 c2:Nat) (h1:1≤op) (h2:op≤14) (qf:Bool) (hf:(∀ W,Below w.heap.size w W→Calls Aj 62 #[.agg #[Aa Ab op,Ac s,Aa Ab t,Aa Ab v,Ae b,Ad A1 n1 c1,Ad A2 n2 c2],Ae false,Ae false,Ae false] W (fun e w'=>e= .returned (Ae qf)∧Below W.heap.size W w'))) (qa:Bool) (ha:(∀ W,Below w.heap.size w W→Calls Aj 68 #[Ad A1 n1 c1] W (fun e w'=>e= .returned (Ae qa)∧Below W.heap.size W w'))) :
  Calls Aj 37 #[.agg #[Aa Ab op,Ac s,Aa Ab t,Aa Ab v,Ae b,Ad A1 n1 c1,Ad A2 n2 c2]] w (fun e w'=>e= .returned (Ae ((n1 == 2) && qf && qa))∧Below w.heap.size w w'):=by
 have d0:decide ((1:Int)≤op)=true:=by simp;omega
 have e0:decide ((op:Int)≥1)=true:=by simp;omega
 have d1:decide ((op:Int)≤14)=true:=by simp;omega
 have e1:decide ((14:Int)≥op)=true:=by simp;omega
 clear h1 h2;have HB1:=Aside0.mk ((Ao w.heap.size w).alloc (Ag _) (Af #[Aa Ab op,Ac s,Aa Ab t,Aa Ab v,Ae b,Ad A1 n1 c1,Ad A2 n2 c2] 28));have HE1:=Aside0.mk (qr w (Af #[Aa Ab op,Ac s,Aa Ab t,Aa Ab v,Ae b,Ad A1 n1 c1,Ad A2 n2 c2] 28));have Hhf:=Aside0.mk hf;have Hha:=Aside0.mk ha;clear ha hf;by_cases h0:(n1 == 2)=true
 ·rw [h0];have m1:((n1:Int) == 2)=true:=beq_iff_eq.mpr (by have h9:n1=2:=(by simpa using h0);omega);clear h0
  cases qf with
  | false=>
   try simp only [AL,AN]
   go_enter A6,AY;go_wp2_with fail
   refine(Hhf.out _ HB1.out).mono ?_;rintro e w2 ⟨rfl,b2⟩;have HB2:=Aside0.mk (HB1.out.trans (b2.mono HB1.out.size));have HE2:=Aside0.mk (qn HE1.out b2);clear b2;obtain⟨x2c0,x2c1,x2c2,x2c3,x2c4,x2c5,x2c6⟩:=fc7 HE2.out;go_wp2_with fail
   go_ret;exact⟨zac,HB2.out⟩
  | true=>
   try simp only [AL]
   go_enter A6,AY;go_wp2_with fail
   refine(Hhf.out _ HB1.out).mono ?_;rintro e w2 ⟨rfl,b2⟩;have HB2:=Aside0.mk (HB1.out.trans (b2.mono HB1.out.size));have HE2:=Aside0.mk (qn HE1.out b2);clear b2;obtain⟨x2c0,x2c1,x2c2,x2c3,x2c4,x2c5,x2c6⟩:=fc7 HE2.out;go_wp2_with fail
   refine(Hha.out _ HB2.out).mono ?_;rintro e w3 ⟨rfl,b3⟩;have HB3:=Aside0.mk (HB2.out.trans (b3.mono HB2.out.size));have HE3:=Aside0.mk (qn HE2.out b3);clear b3;obtain⟨x3c0,x3c1,x3c2,x3c3,x3c4,x3c5,x3c6⟩:=fc7 HE3.out;go_wp2_with fail
   clear x2c0 x2c1 x2c2 x2c3 x2c4 x2c5 x2c6;go_ret;exact⟨zac,HB3.out⟩
 ·rw [AR.2 h0];have h9:n1≠2:=by simpa using h0
  have m1:((n1:Int) == 2)=false:=beq_eq_false_iff_ne.mpr (by omega);clear h9;clear h0
  try simp only [AL,AN]
  go_enter A6,AY;go_wp2_with fail
  go_ret;exact⟨zac,HB1.out⟩
theorem qv18 (w:World) (s:ByteArray) (t v:Int) (b:Bool) (A1:Option Addr) (n1 c1:Nat) (A2:Option Addr) (n2 c2:Nat) (qf:Bool) (hf:(∀ W,Below w.heap.size w W→Calls Aj 62 #[.agg #[Aa Ab 15,Ac s,Aa Ab t,Aa Ab v,Ae b,Ad A1 n1 c1,Ad A2 n2 c2],Ae false,Ae false,Ae false] W (fun e w'=>e= .returned (Ae qf)∧Below W.heap.size W w'))) (qa:Bool) (ha:(∀ W,Below w.heap.size w W→Calls Aj 68 #[Ad A1 n1 c1] W (fun e w'=>e= .returned (Ae qa)∧Below W.heap.size W w'))) :
  Calls Aj 37 #[.agg #[Aa Ab 15,Ac s,Aa Ab t,Aa Ab v,Ae b,Ad A1 n1 c1,Ad A2 n2 c2]] w (fun e w'=>e= .returned (Ae ((n1 == 1) && qf && qa))∧Below w.heap.size w w'):=by
 have HB1:=Aside0.mk ((Ao w.heap.size w).alloc (Ag _) (Af #[Aa Ab 15,Ac s,Aa Ab t,Aa Ab v,Ae b,Ad A1 n1 c1,Ad A2 n2 c2] 28));have HE1:=Aside0.mk (qr w (Af #[Aa Ab 15,Ac s,Aa Ab t,Aa Ab v,Ae b,Ad A1 n1 c1,Ad A2 n2 c2] 28));have Hhf:=Aside0.mk hf;have Hha:=Aside0.mk ha;clear ha hf;by_cases h0:(n1 == 1)=true
 ·rw [h0];have m1:((n1:Int) == 1)=true:=beq_iff_eq.mpr (by have h9:n1=1:=(by simpa using h0);omega);clear h0
  cases qf with
  | false=>
   try simp only [AL,AN]
   go_enter A6,AY;go_wp2_with fail
   refine(Hhf.out _ HB1.out).mono ?_;rintro e w2 ⟨rfl,b2⟩;have HB2:=Aside0.mk (HB1.out.trans (b2.mono HB1.out.size));have HE2:=Aside0.mk (qn HE1.out b2);clear b2;obtain⟨x2c0,x2c1,x2c2,x2c3,x2c4,x2c5,x2c6⟩:=fc7 HE2.out;go_wp2_with fail
   go_ret;exact⟨zac,HB2.out⟩
  | true=>
   try simp only [AL]
   go_enter A6,AY;go_wp2_with fail
   refine(Hhf.out _ HB1.out).mono ?_;rintro e w2 ⟨rfl,b2⟩;have HB2:=Aside0.mk (HB1.out.trans (b2.mono HB1.out.size));have HE2:=Aside0.mk (qn HE1.out b2);clear b2;obtain⟨x2c0,x2c1,x2c2,x2c3,x2c4,x2c5,x2c6⟩:=fc7 HE2.out;go_wp2_with fail
   refine(Hha.out _ HB2.out).mono ?_;rintro e w3 ⟨rfl,b3⟩;have HB3:=Aside0.mk (HB2.out.trans (b3.mono HB2.out.size));have HE3:=Aside0.mk (qn HE2.out b3);clear b3;obtain⟨x3c0,x3c1,x3c2,x3c3,x3c4,x3c5,x3c6⟩:=fc7 HE3.out;go_wp2_with fail
   clear x2c0 x2c1 x2c2 x2c3 x2c4 x2c5 x2c6;go_ret;exact⟨zac,HB3.out⟩
 ·rw [AR.2 h0];have h9:n1≠1:=by simpa using h0
  have m1:((n1:Int) == 1)=false:=beq_eq_false_iff_ne.mpr (by omega);clear h9;clear h0
  try simp only [AL,AN]
  go_enter A6,AY;go_wp2_with fail
  go_ret;exact⟨zac,HB1.out⟩
theorem qc16 (w:World) (s:ByteArray) (t v:Int) (b:Bool) (A1:Option Addr) (n1 c1:Nat) (A2:Option Addr) (n2 c2:Nat) (qf:Bool) (hf:(∀ W,Below w.heap.size w W→Calls Aj 62 #[.agg #[Aa Ab 16,Ac s,Aa Ab t,Aa Ab v,Ae b,Ad A1 n1 c1,Ad A2 n2 c2],Ae false,Ae false,Ae true] W (fun e w'=>e= .returned (Ae qf)∧Below W.heap.size W w'))) (qp:Bool) (hp:(∀ W,Below w.heap.size w W→Calls Aj 63 #[.agg #[Aa Ab 16,Ac s,Aa Ab t,Aa Ab v,Ae b,Ad A1 n1 c1,Ad A2 n2 c2]] W (fun e w'=>e= .returned (Ae qp)∧Below W.heap.size W w'))) (qa:Bool) (ha:(∀ W,Below w.heap.size w W→Calls Aj 68 #[Ad A1 n1 c1] W (fun e w'=>e= .returned (Ae qa)∧Below W.heap.size W w'))) :
  Calls Aj 37 #[.agg #[Aa Ab 16,Ac s,Aa Ab t,Aa Ab v,Ae b,Ad A1 n1 c1,Ad A2 n2 c2]] w (fun e w'=>e= .returned (Ae (qf && qp && qa))∧Below w.heap.size w w'):=by
 have HB1:=Aside0.mk ((Ao w.heap.size w).alloc (Ag _) (Af #[Aa Ab 16,Ac s,Aa Ab t,Aa Ab v,Ae b,Ad A1 n1 c1,Ad A2 n2 c2] 28));have HE1:=Aside0.mk (qr w (Af #[Aa Ab 16,Ac s,Aa Ab t,Aa Ab v,Ae b,Ad A1 n1 c1,Ad A2 n2 c2] 28));have Hhf:=Aside0.mk hf;have Hhp:=Aside0.mk hp;have Hha:=Aside0.mk ha;clear ha hf hp
 cases qf with
 | false=>
  try simp only [AL,AN]
  go_enter A6,AY;go_wp2_with fail
  refine(Hhf.out _ HB1.out).mono ?_;rintro e w2 ⟨rfl,b2⟩;have HB2:=Aside0.mk (HB1.out.trans (b2.mono HB1.out.size));have HE2:=Aside0.mk (qn HE1.out b2);clear b2;obtain⟨x2c0,x2c1,x2c2,x2c3,x2c4,x2c5,x2c6⟩:=fc7 HE2.out;go_wp2_with fail
  go_ret;exact⟨zac,HB2.out⟩
 | true=>
  cases qp with
  | false=>
   try simp only [AL,AN]
   go_enter A6,AY;go_wp2_with fail
   refine(Hhf.out _ HB1.out).mono ?_;rintro e w2 ⟨rfl,b2⟩;have HB2:=Aside0.mk (HB1.out.trans (b2.mono HB1.out.size));have HE2:=Aside0.mk (qn HE1.out b2);clear b2;obtain⟨x2c0,x2c1,x2c2,x2c3,x2c4,x2c5,x2c6⟩:=fc7 HE2.out;go_wp2_with fail
   refine(Hhp.out _ HB2.out).mono ?_;rintro e w3 ⟨rfl,b3⟩;have HB3:=Aside0.mk (HB2.out.trans (b3.mono HB2.out.size));have HE3:=Aside0.mk (qn HE2.out b3);clear b3;obtain⟨x3c0,x3c1,x3c2,x3c3,x3c4,x3c5,x3c6⟩:=fc7 HE3.out;go_wp2_with fail
   clear x2c0 x2c1 x2c2 x2c3 x2c4 x2c5 x2c6;go_ret;exact⟨zac,HB3.out⟩
  | true=>
   try simp only [AL]
   go_enter A6,AY;go_wp2_with fail
   refine(Hhf.out _ HB1.out).mono ?_;rintro e w2 ⟨rfl,b2⟩;have HB2:=Aside0.mk (HB1.out.trans (b2.mono HB1.out.size));have HE2:=Aside0.mk (qn HE1.out b2);clear b2;obtain⟨x2c0,x2c1,x2c2,x2c3,x2c4,x2c5,x2c6⟩:=fc7 HE2.out;go_wp2_with fail
   refine(Hhp.out _ HB2.out).mono ?_;rintro e w3 ⟨rfl,b3⟩;have HB3:=Aside0.mk (HB2.out.trans (b3.mono HB2.out.size));have HE3:=Aside0.mk (qn HE2.out b3);clear b3;obtain⟨x3c0,x3c1,x3c2,x3c3,x3c4,x3c5,x3c6⟩:=fc7 HE3.out;go_wp2_with fail
   clear x2c0 x2c1 x2c2 x2c3 x2c4 x2c5 x2c6;refine(Hha.out _ HB3.out).mono ?_;rintro e w4 ⟨rfl,b4⟩;have HB4:=Aside0.mk (HB3.out.trans (b4.mono HB3.out.size));have HE4:=Aside0.mk (qn HE3.out b4);clear b4;obtain⟨x4c0,x4c1,x4c2,x4c3,x4c4,x4c5,x4c6⟩:=fc7 HE4.out;go_wp2_with fail
   clear x3c0 x3c1 x3c2 x3c3 x3c4 x3c5 x3c6;go_ret;exact⟨zac,HB4.out⟩
theorem qw12 (w:World) (s:ByteArray) (t v:Int) (b:Bool) (A1:Option Addr) (n1 c1:Nat) (A2:Option Addr) (n2 c2:Nat) (qf:Bool) (hf:(∀ W,Below w.heap.size w W→Calls Aj 62 #[.agg #[Aa Ab 17,Ac s,Aa Ab t,Aa Ab v,Ae b,Ad A1 n1 c1,Ad A2 n2 c2],Ae false,Ae false,Ae false] W (fun e w'=>e= .returned (Ae qf)∧Below W.heap.size W w'))) (qa:Bool) (ha:(∀ W,Below w.heap.size w W→Calls Aj 68 #[Ad A1 n1 c1] W (fun e w'=>e= .returned (Ae qa)∧Below W.heap.size W w'))) :
  Calls Aj 37 #[.agg #[Aa Ab 17,Ac s,Aa Ab t,Aa Ab v,Ae b,Ad A1 n1 c1,Ad A2 n2 c2]] w (fun e w'=>e= .returned (Ae ((decide (2≤n1)) && qf && qa))∧Below w.heap.size w w'):=by
 have HB1:=Aside0.mk ((Ao w.heap.size w).alloc (Ag _) (Af #[Aa Ab 17,Ac s,Aa Ab t,Aa Ab v,Ae b,Ad A1 n1 c1,Ad A2 n2 c2] 28));have HE1:=Aside0.mk (qr w (Af #[Aa Ab 17,Ac s,Aa Ab t,Aa Ab v,Ae b,Ad A1 n1 c1,Ad A2 n2 c2] 28));have Hhf:=Aside0.mk hf;have Hha:=Aside0.mk ha;clear ha hf;by_cases h0:(decide (2≤n1))=true
 ·rw [h0];have h9:2≤n1:=by simpa using h0
  have m1:decide ((n1:Int)≥2)=true:=by simp;omega
  have m2:decide ((2:Int)≤(n1:Int))=true:=by simp;omega
  have m3:decide (2≤n1)=true:=by simp;omega
  clear h9;clear h0
  cases qf with
  | false=>
   try simp only [AL,AN]
   go_enter A6,AY;go_wp2_with fail
   refine(Hhf.out _ HB1.out).mono ?_;rintro e w2 ⟨rfl,b2⟩;have HB2:=Aside0.mk (HB1.out.trans (b2.mono HB1.out.size));have HE2:=Aside0.mk (qn HE1.out b2);clear b2;obtain⟨x2c0,x2c1,x2c2,x2c3,x2c4,x2c5,x2c6⟩:=fc7 HE2.out;go_wp2_with fail
   go_ret;exact⟨zac,HB2.out⟩
  | true=>
   try simp only [AL]
   go_enter A6,AY;go_wp2_with fail
   refine(Hhf.out _ HB1.out).mono ?_;rintro e w2 ⟨rfl,b2⟩;have HB2:=Aside0.mk (HB1.out.trans (b2.mono HB1.out.size));have HE2:=Aside0.mk (qn HE1.out b2);clear b2;obtain⟨x2c0,x2c1,x2c2,x2c3,x2c4,x2c5,x2c6⟩:=fc7 HE2.out;go_wp2_with fail
   refine(Hha.out _ HB2.out).mono ?_;rintro e w3 ⟨rfl,b3⟩;have HB3:=Aside0.mk (HB2.out.trans (b3.mono HB2.out.size));have HE3:=Aside0.mk (qn HE2.out b3);clear b3;obtain⟨x3c0,x3c1,x3c2,x3c3,x3c4,x3c5,x3c6⟩:=fc7 HE3.out;go_wp2_with fail
   clear x2c0 x2c1 x2c2 x2c3 x2c4 x2c5 x2c6;go_ret;exact⟨zac,HB3.out⟩
 ·rw [AR.2 h0];have h9:¬ 2≤n1:=by simpa using h0
  have m1:decide ((n1:Int)≥2)=false:=by simp;omega
  have m2:decide ((2:Int)≤(n1:Int))=false:=by simp;omega
  have m3:decide (2≤n1)=false:=by simp;omega
  clear h9;clear h0
  try simp only [AL,AN]
  go_enter A6,AY;go_wp2_with fail
  go_ret;exact⟨zac,HB1.out⟩
theorem qx18 (w:World) (s:ByteArray) (t v:Int) (b:Bool) (A1:Option Addr) (n1 c1:Nat) (A2:Option Addr) (n2 c2:Nat) (qf:Bool) (hf:(∀ W,Below w.heap.size w W→Calls Aj 62 #[.agg #[Aa Ab 18,Ac s,Aa Ab t,Aa Ab v,Ae b,Ad A1 n1 c1,Ad A2 n2 c2],Ae true,Ae false,Ae false] W (fun e w'=>e= .returned (Ae qf)∧Below W.heap.size W w'))) (qt:Bool) (ht:(∀ W,Below w.heap.size w W→Calls Aj 64 #[Ac s] W (fun e w'=>e= .returned (Ae qt)∧Below W.heap.size W w'))) (qa:Bool) (ha:(∀ W,Below w.heap.size w W→Calls Aj 68 #[Ad A1 n1 c1] W (fun e w'=>e= .returned (Ae qa)∧Below W.heap.size W w'))) :
  Calls Aj 37 #[.agg #[Aa Ab 18,Ac s,Aa Ab t,Aa Ab v,Ae b,Ad A1 n1 c1,Ad A2 n2 c2]] w (fun e w'=>e= .returned (Ae ((n1 == 0) && qf && qt && qa))∧Below w.heap.size w w'):=by
 have HB1:=Aside0.mk ((Ao w.heap.size w).alloc (Ag _) (Af #[Aa Ab 18,Ac s,Aa Ab t,Aa Ab v,Ae b,Ad A1 n1 c1,Ad A2 n2 c2] 28));have HE1:=Aside0.mk (qr w (Af #[Aa Ab 18,Ac s,Aa Ab t,Aa Ab v,Ae b,Ad A1 n1 c1,Ad A2 n2 c2] 28));have Hhf:=Aside0.mk hf;have Hht:=Aside0.mk ht;have Hha:=Aside0.mk ha;clear ha hf ht;by_cases h0:(n1 == 0)=true
 ·rw [h0];have m1:((n1:Int) == 0)=true:=beq_iff_eq.mpr (by have h9:n1=0:=(by simpa using h0);omega);clear h0
  cases qf with
  | false=>
   try simp only [AL,AN]
   go_enter A6,AY;go_wp2_with fail
   refine(Hhf.out _ HB1.out).mono ?_;rintro e w2 ⟨rfl,b2⟩;have HB2:=Aside0.mk (HB1.out.trans (b2.mono HB1.out.size));have HE2:=Aside0.mk (qn HE1.out b2);clear b2;obtain⟨x2c0,x2c1,x2c2,x2c3,x2c4,x2c5,x2c6⟩:=fc7 HE2.out;go_wp2_with fail
   go_ret;exact⟨zac,HB2.out⟩
  | true=>
   cases qt with
   | false=>
    try simp only [AL,AN]
    go_enter A6,AY;go_wp2_with fail
    refine(Hhf.out _ HB1.out).mono ?_;rintro e w2 ⟨rfl,b2⟩;have HB2:=Aside0.mk (HB1.out.trans (b2.mono HB1.out.size));have HE2:=Aside0.mk (qn HE1.out b2);clear b2;obtain⟨x2c0,x2c1,x2c2,x2c3,x2c4,x2c5,x2c6⟩:=fc7 HE2.out;go_wp2_with fail
    refine(Hht.out _ HB2.out).mono ?_;rintro e w3 ⟨rfl,b3⟩;have HB3:=Aside0.mk (HB2.out.trans (b3.mono HB2.out.size));have HE3:=Aside0.mk (qn HE2.out b3);clear b3;obtain⟨x3c0,x3c1,x3c2,x3c3,x3c4,x3c5,x3c6⟩:=fc7 HE3.out;go_wp2_with fail
    clear x2c0 x2c1 x2c2 x2c3 x2c4 x2c5 x2c6;go_ret;exact⟨zac,HB3.out⟩
   | true=>
    try simp only [AL]
    go_enter A6,AY;go_wp2_with fail
    refine(Hhf.out _ HB1.out).mono ?_;rintro e w2 ⟨rfl,b2⟩;have HB2:=Aside0.mk (HB1.out.trans (b2.mono HB1.out.size));have HE2:=Aside0.mk (qn HE1.out b2);clear b2;obtain⟨x2c0,x2c1,x2c2,x2c3,x2c4,x2c5,x2c6⟩:=fc7 HE2.out;go_wp2_with fail
    refine(Hht.out _ HB2.out).mono ?_;rintro e w3 ⟨rfl,b3⟩;have HB3:=Aside0.mk (HB2.out.trans (b3.mono HB2.out.size));have HE3:=Aside0.mk (qn HE2.out b3);clear b3;obtain⟨x3c0,x3c1,x3c2,x3c3,x3c4,x3c5,x3c6⟩:=fc7 HE3.out;go_wp2_with fail
    clear x2c0 x2c1 x2c2 x2c3 x2c4 x2c5 x2c6;refine(Hha.out _ HB3.out).mono ?_;rintro e w4 ⟨rfl,b4⟩;have HB4:=Aside0.mk (HB3.out.trans (b4.mono HB3.out.size));have HE4:=Aside0.mk (qn HE3.out b4);clear b4;obtain⟨x4c0,x4c1,x4c2,x4c3,x4c4,x4c5,x4c6⟩:=fc7 HE4.out;go_wp2_with fail
    clear x3c0 x3c1 x3c2 x3c3 x3c4 x3c5 x3c6;go_ret;exact⟨zac,HB4.out⟩
 ·rw [AR.2 h0];have h9:n1≠0:=by simpa using h0
  have m1:((n1:Int) == 0)=false:=beq_eq_false_iff_ne.mpr (by omega);clear h9;clear h0
  try simp only [AL,AN]
  go_enter A6,AY;go_wp2_with fail
  go_ret;exact⟨zac,HB1.out⟩
theorem qu18 (w:World) (s:ByteArray) (t v:Int) (b:Bool) (A1:Option Addr) (n1 c1:Nat) (A2:Option Addr) (n2 c2:Nat) (qf:Bool) (hf:(∀ W,Below w.heap.size w W→Calls Aj 62 #[.agg #[Aa Ab 19,Ac s,Aa Ab t,Aa Ab v,Ae b,Ad A1 n1 c1,Ad A2 n2 c2],Ae false,Ae true,Ae false] W (fun e w'=>e= .returned (Ae qf)∧Below W.heap.size W w'))) (qd:Bool) (hd:(∀ W,Below w.heap.size w W→Calls Aj 65 #[.agg #[Aa Ab t,Aa Ab v]] W (fun e w'=>e= .returned (Ae qd)∧Below W.heap.size W w'))) (qa:Bool) (ha:(∀ W,Below w.heap.size w W→Calls Aj 68 #[Ad A1 n1 c1] W (fun e w'=>e= .returned (Ae qa)∧Below W.heap.size W w'))) :
  Calls Aj 37 #[.agg #[Aa Ab 19,Ac s,Aa Ab t,Aa Ab v,Ae b,Ad A1 n1 c1,Ad A2 n2 c2]] w (fun e w'=>e= .returned (Ae ((n1 == 0) && qf && qd && (t == 0) && (decide (0≤v)) && qa))∧Below w.heap.size w w'):=by
 have HB1:=Aside0.mk ((Ao w.heap.size w).alloc (Ag _) (Af #[Aa Ab 19,Ac s,Aa Ab t,Aa Ab v,Ae b,Ad A1 n1 c1,Ad A2 n2 c2] 28));have HE1:=Aside0.mk (qr w (Af #[Aa Ab 19,Ac s,Aa Ab t,Aa Ab v,Ae b,Ad A1 n1 c1,Ad A2 n2 c2] 28));have Hhf:=Aside0.mk hf;have Hhd:=Aside0.mk hd;have Hha:=Aside0.mk ha;clear ha hf hd;by_cases h0:(n1 == 0)=true
 ·rw [h0];have m1:((n1:Int) == 0)=true:=beq_iff_eq.mpr (by have h9:n1=0:=(by simpa using h0);omega);clear h0
  cases qf with
  | false=>
   try simp only [AL,AN]
   go_enter A6,AY;go_wp2_with fail
   refine(Hhf.out _ HB1.out).mono ?_;rintro e w2 ⟨rfl,b2⟩;have HB2:=Aside0.mk (HB1.out.trans (b2.mono HB1.out.size));have HE2:=Aside0.mk (qn HE1.out b2);clear b2;obtain⟨x2c0,x2c1,x2c2,x2c3,x2c4,x2c5,x2c6⟩:=fc7 HE2.out;go_wp2_with fail
   go_ret;exact⟨zac,HB2.out⟩
  | true=>
   cases qd with
   | false=>
    try simp only [AL,AN]
    go_enter A6,AY;go_wp2_with fail
    refine(Hhf.out _ HB1.out).mono ?_;rintro e w2 ⟨rfl,b2⟩;have HB2:=Aside0.mk (HB1.out.trans (b2.mono HB1.out.size));have HE2:=Aside0.mk (qn HE1.out b2);clear b2;obtain⟨x2c0,x2c1,x2c2,x2c3,x2c4,x2c5,x2c6⟩:=fc7 HE2.out;go_wp2_with fail
    refine(Hhd.out _ HB2.out).mono ?_;rintro e w3 ⟨rfl,b3⟩;have HB3:=Aside0.mk (HB2.out.trans (b3.mono HB2.out.size));have HE3:=Aside0.mk (qn HE2.out b3);clear b3;obtain⟨x3c0,x3c1,x3c2,x3c3,x3c4,x3c5,x3c6⟩:=fc7 HE3.out;go_wp2_with fail
    clear x2c0 x2c1 x2c2 x2c3 x2c4 x2c5 x2c6;go_ret;exact⟨zac,HB3.out⟩
   | true=>
    by_cases h3:(t == 0)=true
    ·rw [h3];have g1:(t == 0)=true:=h3;clear h3;by_cases h4:(decide (0≤v))=true
     ·rw [h4];have g2:decide (0≤v)=true:=h4;have g3:decide (v≥0)=true:=h4;clear h4
      try simp only [AL]
      go_enter A6,AY;go_wp2_with fail
      refine(Hhf.out _ HB1.out).mono ?_;rintro e w2 ⟨rfl,b2⟩;have HB2:=Aside0.mk (HB1.out.trans (b2.mono HB1.out.size));have HE2:=Aside0.mk (qn HE1.out b2);clear b2;obtain⟨x2c0,x2c1,x2c2,x2c3,x2c4,x2c5,x2c6⟩:=fc7 HE2.out;go_wp2_with fail
      refine(Hhd.out _ HB2.out).mono ?_;rintro e w3 ⟨rfl,b3⟩;have HB3:=Aside0.mk (HB2.out.trans (b3.mono HB2.out.size));have HE3:=Aside0.mk (qn HE2.out b3);clear b3;obtain⟨x3c0,x3c1,x3c2,x3c3,x3c4,x3c5,x3c6⟩:=fc7 HE3.out;go_wp2_with fail
      clear x2c0 x2c1 x2c2 x2c3 x2c4 x2c5 x2c6;refine(Hha.out _ HB3.out).mono ?_;rintro e w4 ⟨rfl,b4⟩;have HB4:=Aside0.mk (HB3.out.trans (b4.mono HB3.out.size));have HE4:=Aside0.mk (qn HE3.out b4);clear b4;obtain⟨x4c0,x4c1,x4c2,x4c3,x4c4,x4c5,x4c6⟩:=fc7 HE4.out;go_wp2_with fail
      clear x3c0 x3c1 x3c2 x3c3 x3c4 x3c5 x3c6;go_ret;exact⟨zac,HB4.out⟩
     ·rw [AR.2 h4];have g2:decide (0≤v)=false:=by simpa using h4
      have g3:decide (v≥0)=false:=by simpa using h4
      clear h4
      try simp only [AL,AN]
      go_enter A6,AY;go_wp2_with fail
      refine(Hhf.out _ HB1.out).mono ?_;rintro e w2 ⟨rfl,b2⟩;have HB2:=Aside0.mk (HB1.out.trans (b2.mono HB1.out.size));have HE2:=Aside0.mk (qn HE1.out b2);clear b2;obtain⟨x2c0,x2c1,x2c2,x2c3,x2c4,x2c5,x2c6⟩:=fc7 HE2.out;go_wp2_with fail
      refine(Hhd.out _ HB2.out).mono ?_;rintro e w3 ⟨rfl,b3⟩;have HB3:=Aside0.mk (HB2.out.trans (b3.mono HB2.out.size));have HE3:=Aside0.mk (qn HE2.out b3);clear b3;obtain⟨x3c0,x3c1,x3c2,x3c3,x3c4,x3c5,x3c6⟩:=fc7 HE3.out;go_wp2_with fail
      clear x2c0 x2c1 x2c2 x2c3 x2c4 x2c5 x2c6;go_ret;exact⟨zac,HB3.out⟩
    ·rw [AR.2 h3];have g1:(t == 0)=false:=by simpa using h3
     clear h3
     try simp only [AL,AN]
     go_enter A6,AY;go_wp2_with fail
     refine(Hhf.out _ HB1.out).mono ?_;rintro e w2 ⟨rfl,b2⟩;have HB2:=Aside0.mk (HB1.out.trans (b2.mono HB1.out.size));have HE2:=Aside0.mk (qn HE1.out b2);clear b2;obtain⟨x2c0,x2c1,x2c2,x2c3,x2c4,x2c5,x2c6⟩:=fc7 HE2.out;go_wp2_with fail
     refine(Hhd.out _ HB2.out).mono ?_;rintro e w3 ⟨rfl,b3⟩;have HB3:=Aside0.mk (HB2.out.trans (b3.mono HB2.out.size));have HE3:=Aside0.mk (qn HE2.out b3);clear b3;obtain⟨x3c0,x3c1,x3c2,x3c3,x3c4,x3c5,x3c6⟩:=fc7 HE3.out;go_wp2_with fail
     clear x2c0 x2c1 x2c2 x2c3 x2c4 x2c5 x2c6;go_ret;exact⟨zac,HB3.out⟩
 ·rw [AR.2 h0];have h9:n1≠0:=by simpa using h0
  have m1:((n1:Int) == 0)=false:=beq_eq_false_iff_ne.mpr (by omega);clear h9;clear h0
  try simp only [AL,AN]
  go_enter A6,AY;go_wp2_with fail
  go_ret;exact⟨zac,HB1.out⟩
theorem qt18 (w:World) (s:ByteArray) (t v:Int) (b:Bool) (A1:Option Addr) (n1 c1:Nat) (A2:Option Addr) (n2 c2:Nat) (qf:Bool) (hf:(∀ W,Below w.heap.size w W→Calls Aj 62 #[.agg #[Aa Ab 21,Ac s,Aa Ab t,Aa Ab v,Ae b,Ad A1 n1 c1,Ad A2 n2 c2],Ae true,Ae false,Ae false] W (fun e w'=>e= .returned (Ae qf)∧Below W.heap.size W w'))) (qt:Bool) (ht:(∀ W,Below w.heap.size w W→Calls Aj 66 #[Ac s] W (fun e w'=>e= .returned (Ae qt)∧Below W.heap.size W w'))) (qa:Bool) (ha:(∀ W,Below w.heap.size w W→Calls Aj 68 #[Ad A1 n1 c1] W (fun e w'=>e= .returned (Ae qa)∧Below W.heap.size W w'))) :
  Calls Aj 37 #[.agg #[Aa Ab 21,Ac s,Aa Ab t,Aa Ab v,Ae b,Ad A1 n1 c1,Ad A2 n2 c2]] w (fun e w'=>e= .returned (Ae ((n1 == 0) && qf && qt && qa))∧Below w.heap.size w w'):=by
 have HB1:=Aside0.mk ((Ao w.heap.size w).alloc (Ag _) (Af #[Aa Ab 21,Ac s,Aa Ab t,Aa Ab v,Ae b,Ad A1 n1 c1,Ad A2 n2 c2] 28));have HE1:=Aside0.mk (qr w (Af #[Aa Ab 21,Ac s,Aa Ab t,Aa Ab v,Ae b,Ad A1 n1 c1,Ad A2 n2 c2] 28));have Hhf:=Aside0.mk hf;have Hht:=Aside0.mk ht;have Hha:=Aside0.mk ha;clear ha hf ht;by_cases h0:(n1 == 0)=true
 ·rw [h0];have m1:((n1:Int) == 0)=true:=beq_iff_eq.mpr (by have h9:n1=0:=(by simpa using h0);omega);clear h0
  cases qf with
  | false=>
   try simp only [AL,AN]
   go_enter A6,AY;go_wp2_with fail
   refine(Hhf.out _ HB1.out).mono ?_;rintro e w2 ⟨rfl,b2⟩;have HB2:=Aside0.mk (HB1.out.trans (b2.mono HB1.out.size));have HE2:=Aside0.mk (qn HE1.out b2);clear b2;obtain⟨x2c0,x2c1,x2c2,x2c3,x2c4,x2c5,x2c6⟩:=fc7 HE2.out;go_wp2_with fail
   go_ret;exact⟨zac,HB2.out⟩
  | true=>
   cases qt with
   | false=>
    try simp only [AL,AN]
    go_enter A6,AY;go_wp2_with fail
    refine(Hhf.out _ HB1.out).mono ?_;rintro e w2 ⟨rfl,b2⟩;have HB2:=Aside0.mk (HB1.out.trans (b2.mono HB1.out.size));have HE2:=Aside0.mk (qn HE1.out b2);clear b2;obtain⟨x2c0,x2c1,x2c2,x2c3,x2c4,x2c5,x2c6⟩:=fc7 HE2.out;go_wp2_with fail
    refine(Hht.out _ HB2.out).mono ?_;rintro e w3 ⟨rfl,b3⟩;have HB3:=Aside0.mk (HB2.out.trans (b3.mono HB2.out.size));have HE3:=Aside0.mk (qn HE2.out b3);clear b3;obtain⟨x3c0,x3c1,x3c2,x3c3,x3c4,x3c5,x3c6⟩:=fc7 HE3.out;go_wp2_with fail
    clear x2c0 x2c1 x2c2 x2c3 x2c4 x2c5 x2c6;go_ret;exact⟨zac,HB3.out⟩
   | true=>
    try simp only [AL]
    go_enter A6,AY;go_wp2_with fail
    refine(Hhf.out _ HB1.out).mono ?_;rintro e w2 ⟨rfl,b2⟩;have HB2:=Aside0.mk (HB1.out.trans (b2.mono HB1.out.size));have HE2:=Aside0.mk (qn HE1.out b2);clear b2;obtain⟨x2c0,x2c1,x2c2,x2c3,x2c4,x2c5,x2c6⟩:=fc7 HE2.out;go_wp2_with fail
    refine(Hht.out _ HB2.out).mono ?_;rintro e w3 ⟨rfl,b3⟩;have HB3:=Aside0.mk (HB2.out.trans (b3.mono HB2.out.size));have HE3:=Aside0.mk (qn HE2.out b3);clear b3;obtain⟨x3c0,x3c1,x3c2,x3c3,x3c4,x3c5,x3c6⟩:=fc7 HE3.out;go_wp2_with fail
    clear x2c0 x2c1 x2c2 x2c3 x2c4 x2c5 x2c6;refine(Hha.out _ HB3.out).mono ?_;rintro e w4 ⟨rfl,b4⟩;have HB4:=Aside0.mk (HB3.out.trans (b4.mono HB3.out.size));have HE4:=Aside0.mk (qn HE3.out b4);clear b4;obtain⟨x4c0,x4c1,x4c2,x4c3,x4c4,x4c5,x4c6⟩:=fc7 HE4.out;go_wp2_with fail
    clear x3c0 x3c1 x3c2 x3c3 x3c4 x3c5 x3c6;go_ret;exact⟨zac,HB4.out⟩
 ·rw [AR.2 h0];have h9:n1≠0:=by simpa using h0
  have m1:((n1:Int) == 0)=false:=beq_eq_false_iff_ne.mpr (by omega);clear h9;clear h0
  try simp only [AL,AN]
  go_enter A6,AY;go_wp2_with fail
  go_ret;exact⟨zac,HB1.out⟩
theorem qe16 (w:World) (s:ByteArray) (t v:Int) (b:Bool) (A1:Option Addr) (n1 c1:Nat) (A2:Option Addr) (n2 c2:Nat) (qf:Bool) (hf:(∀ W,Below w.heap.size w W→Calls Aj 62 #[.agg #[Aa Ab 20,Ac s,Aa Ab t,Aa Ab v,Ae b,Ad A1 n1 c1,Ad A2 n2 c2],Ae true,Ae false,Ae false] W (fun e w'=>e= .returned (Ae qf)∧Below W.heap.size W w'))) (qt:Bool) (ht:(∀ W,Below w.heap.size w W→Calls Aj 66 #[Ac s] W (fun e w'=>e= .returned (Ae qt)∧Below W.heap.size W w'))) (qy:Bool) (hy:(∀ W,Below w.heap.size w W→Calls Aj 67 #[Ac s] W (fun e w'=>e= .returned (Ae (!qy))∧Below W.heap.size W w'))) (qa:Bool) (ha:(∀ W,Below w.heap.size w W→Calls Aj 68 #[Ad A1 n1 c1] W (fun e w'=>e= .returned (Ae qa)∧Below W.heap.size W w'))) :
  Calls Aj 37 #[.agg #[Aa Ab 20,Ac s,Aa Ab t,Aa Ab v,Ae b,Ad A1 n1 c1,Ad A2 n2 c2]] w (fun e w'=>e= .returned (Ae (qf && qt && qy && qa))∧Below w.heap.size w w'):=by
 have HB1:=Aside0.mk ((Ao w.heap.size w).alloc (Ag _) (Af #[Aa Ab 20,Ac s,Aa Ab t,Aa Ab v,Ae b,Ad A1 n1 c1,Ad A2 n2 c2] 28));have HE1:=Aside0.mk (qr w (Af #[Aa Ab 20,Ac s,Aa Ab t,Aa Ab v,Ae b,Ad A1 n1 c1,Ad A2 n2 c2] 28));have Hhf:=Aside0.mk hf;have Hht:=Aside0.mk ht;have Hhy:=Aside0.mk hy;have Hha:=Aside0.mk ha;clear ha hf ht hy
 cases qf with
 | false=>
  try simp only [AL,AN]
  go_enter A6,AY;go_wp2_with fail
  refine(Hhf.out _ HB1.out).mono ?_;rintro e w2 ⟨rfl,b2⟩;have HB2:=Aside0.mk (HB1.out.trans (b2.mono HB1.out.size));have HE2:=Aside0.mk (qn HE1.out b2);clear b2;obtain⟨x2c0,x2c1,x2c2,x2c3,x2c4,x2c5,x2c6⟩:=fc7 HE2.out;go_wp2_with fail
  go_ret;exact⟨zac,HB2.out⟩
 | true=>
  cases qt with
  | false=>
   try simp only [AL,AN]
   go_enter A6,AY;go_wp2_with fail
   refine(Hhf.out _ HB1.out).mono ?_;rintro e w2 ⟨rfl,b2⟩;have HB2:=Aside0.mk (HB1.out.trans (b2.mono HB1.out.size));have HE2:=Aside0.mk (qn HE1.out b2);clear b2;obtain⟨x2c0,x2c1,x2c2,x2c3,x2c4,x2c5,x2c6⟩:=fc7 HE2.out;go_wp2_with fail
   refine(Hht.out _ HB2.out).mono ?_;rintro e w3 ⟨rfl,b3⟩;have HB3:=Aside0.mk (HB2.out.trans (b3.mono HB2.out.size));have HE3:=Aside0.mk (qn HE2.out b3);clear b3;obtain⟨x3c0,x3c1,x3c2,x3c3,x3c4,x3c5,x3c6⟩:=fc7 HE3.out;go_wp2_with fail
   clear x2c0 x2c1 x2c2 x2c3 x2c4 x2c5 x2c6;go_ret;exact⟨zac,HB3.out⟩
  | true=>
   cases qy with
   | false=>
    try simp only [AL,AN]
    go_enter A6,AY;go_wp2_with fail
    refine(Hhf.out _ HB1.out).mono ?_;rintro e w2 ⟨rfl,b2⟩;have HB2:=Aside0.mk (HB1.out.trans (b2.mono HB1.out.size));have HE2:=Aside0.mk (qn HE1.out b2);clear b2;obtain⟨x2c0,x2c1,x2c2,x2c3,x2c4,x2c5,x2c6⟩:=fc7 HE2.out;go_wp2_with fail
    refine(Hht.out _ HB2.out).mono ?_;rintro e w3 ⟨rfl,b3⟩;have HB3:=Aside0.mk (HB2.out.trans (b3.mono HB2.out.size));have HE3:=Aside0.mk (qn HE2.out b3);clear b3;obtain⟨x3c0,x3c1,x3c2,x3c3,x3c4,x3c5,x3c6⟩:=fc7 HE3.out;go_wp2_with fail
    clear x2c0 x2c1 x2c2 x2c3 x2c4 x2c5 x2c6;refine(Hhy.out _ HB3.out).mono ?_;rintro e w4 ⟨rfl,b4⟩;have HB4:=Aside0.mk (HB3.out.trans (b4.mono HB3.out.size));have HE4:=Aside0.mk (qn HE3.out b4);clear b4;obtain⟨x4c0,x4c1,x4c2,x4c3,x4c4,x4c5,x4c6⟩:=fc7 HE4.out;go_wp2_with fail
    clear x3c0 x3c1 x3c2 x3c3 x3c4 x3c5 x3c6;go_ret;exact⟨zac,HB4.out⟩
   | true=>
    try simp only [AL]
    go_enter A6,AY;go_wp2_with fail
    refine(Hhf.out _ HB1.out).mono ?_;rintro e w2 ⟨rfl,b2⟩;have HB2:=Aside0.mk (HB1.out.trans (b2.mono HB1.out.size));have HE2:=Aside0.mk (qn HE1.out b2);clear b2;obtain⟨x2c0,x2c1,x2c2,x2c3,x2c4,x2c5,x2c6⟩:=fc7 HE2.out;go_wp2_with fail
    refine(Hht.out _ HB2.out).mono ?_;rintro e w3 ⟨rfl,b3⟩;have HB3:=Aside0.mk (HB2.out.trans (b3.mono HB2.out.size));have HE3:=Aside0.mk (qn HE2.out b3);clear b3;obtain⟨x3c0,x3c1,x3c2,x3c3,x3c4,x3c5,x3c6⟩:=fc7 HE3.out;go_wp2_with fail
    clear x2c0 x2c1 x2c2 x2c3 x2c4 x2c5 x2c6;refine(Hhy.out _ HB3.out).mono ?_;rintro e w4 ⟨rfl,b4⟩;have HB4:=Aside0.mk (HB3.out.trans (b4.mono HB3.out.size));have HE4:=Aside0.mk (qn HE3.out b4);clear b4;obtain⟨x4c0,x4c1,x4c2,x4c3,x4c4,x4c5,x4c6⟩:=fc7 HE4.out;go_wp2_with fail
    clear x3c0 x3c1 x3c2 x3c3 x3c4 x3c5 x3c6;refine(Hha.out _ HB4.out).mono ?_;rintro e w5 ⟨rfl,b5⟩;have HB5:=Aside0.mk (HB4.out.trans (b5.mono HB4.out.size));have HE5:=Aside0.mk (qn HE4.out b5);clear b5;obtain⟨x5c0,x5c1,x5c2,x5c3,x5c4,x5c5,x5c6⟩:=fc7 HE5.out;go_wp2_with fail
    clear x4c0 x4c1 x4c2 x4c3 x4c4 x4c5 x4c6;go_ret;exact⟨zac,HB5.out⟩
theorem qd16 (w:World) (op:Int) (s:ByteArray) (t v:Int) (b:Bool) (A1:Option Addr) (n1 c1:Nat) (A2:Option Addr) (n2 c2:Nat) (h:¬ (1≤op∧op≤21)) :
  Calls Aj 37 #[.agg #[Aa Ab op,Ac s,Aa Ab t,Aa Ab v,Ae b,Ad A1 n1 c1,Ad A2 n2 c2]] w (fun e w'=>e= .returned (Ae false)∧Below w.heap.size w w'):=by
 by_cases hlo:1≤op
 ·skip
  have HB1:=Aside0.mk ((Ao w.heap.size w).alloc (Ag _) (Af #[Aa Ab op,Ac s,Aa Ab t,Aa Ab v,Ae b,Ad A1 n1 c1,Ad A2 n2 c2] 28));have q15:(op == 15)=false:=by simp;omega
  have q16:(op == 16)=false:=by simp;omega
  have q17:(op == 17)=false:=by simp;omega
  have q18:(op == 18)=false:=by simp;omega
  have q19:(op == 19)=false:=by simp;omega
  have q20:(op == 20)=false:=by simp;omega
  have q21:(op == 21)=false:=by simp;omega
  have d0:decide ((1:Int)≤op)=true:=by simp;omega
  have e0:decide (op≥(1:Int))=true:=by simp;omega
  have d1:decide (op≤(14:Int))=false:=by simp;omega
  have e1:decide ((14:Int)≥op)=false:=by simp;omega
  clear h hlo;go_enter A6,AY;go_wp2_with fail
  go_ret;exact⟨rfl,HB1.out⟩
 ·skip
  have HB1:=Aside0.mk ((Ao w.heap.size w).alloc (Ag _) (Af #[Aa Ab op,Ac s,Aa Ab t,Aa Ab v,Ae b,Ad A1 n1 c1,Ad A2 n2 c2] 28));have q15:(op == 15)=false:=by simp;omega
  have q16:(op == 16)=false:=by simp;omega
  have q17:(op == 17)=false:=by simp;omega
  have q18:(op == 18)=false:=by simp;omega
  have q19:(op == 19)=false:=by simp;omega
  have q20:(op == 20)=false:=by simp;omega
  have q21:(op == 21)=false:=by simp;omega
  have d0:decide ((1:Int)≤op)=false:=by simp;omega
  have e0:decide (op≥(1:Int))=false:=by simp;omega
  clear h hlo;go_enter A6,AY;go_wp2_with fail
  go_ret;exact⟨rfl,HB1.out⟩
end Go.Proofs.YtocdckniokhbbaaGreatDoor.Syn
