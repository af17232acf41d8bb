import Derived.Test.YtocdckniokhbbaaGreatDoorZkZz
import Derived.Test.YtocdckniokhbbaaGreatDoorZkFigD
import Derived.Laws.IdiomStrings
import Derived.Deep.QuietTactic
import Derived.BigQuiet
import Derived.Lib.ConvBytes
import Derived.Test.YtocdckniokhbbaaGreatDoorZkSynC
import Derived.RangeFuncSeq
import Derived.IntWalk
import Derived.Lib.Builder
import Derived.Laws.OwnMore
set_option linter.unusedVariables false
set_option linter.unusedSimpArgs false
open Go.Value renaming string→Ac,bool→Ae,int→Aa,slice→Ad,ownBlock→BP
open Go.RowKit.Below renaming refl→Ao,heap_setCell→AX,drew→AQ
open Go.ByteArray renaming toList_eq→Aq
open Go.Proofs.Tryz renaming prog→Aj,underlying24→AC
open Nat renaming le_refl→Ag,lt_of_lt_of_le→AW,le_of_lt→Ah
open Go.Lib renaming size_eq→Bh,frozen_of_heap→Bd
open Go.Obj renaming cells→Af
open Go.IntKind renaming i64→Ab
open Array renaming getElem?_eq_some_iff→An
open List renaming length_append→Ar,length_cons→AK,cons_append→Bf
open And renaming intro→AZ
open Go.World renaming setCell→At
set_option maxHeartbeats 4000000
set_option maxRecDepth 100000
namespace Go.Proofs.YtocdckniokhbbaaGreatDoor.FigE
open Go.RowKit Go.Shelf YtocdckniokhbbaaGreatDoorW.PrintWords YtocdckniokhbbaaGreatDoorW.PrintLast YtocdckniokhbbaaGreatDoorW.PrintMore CharB CharD SpanA FigA FigC FigD
def Keeps (b:Nat) (w w':World):Prop:=∀ c v t,c≠b→Cell c v t w→Cell c v t w'
theorem qj22 {P:Program} {f:FuncId} {args:Array Value} {w:World} {b B:Nat} {s:ByteArray} {x y:List UInt8} (h:Cell b (Ac s) 9 w) (hB:B≤b)
  (hc:Calls P f args w fun e w'=>e= .returned (Ac (ba x))∧w'=w.setCell ⟨b,0,none⟩ (Ac (ba y))) :
  Calls P f args w fun e w'=>e= .returned (Ac (ba x))∧Cell b (Ac (ba y)) 9 w'∧Below B w w'∧Keeps b w w':=by
 refine hc.mono ?_;rintro e w' ⟨rfl,rfl⟩;exact⟨rfl,h.set,(Ao B w).setCell (p:=⟨b,0,none⟩) hB _,fun c v t hne hv=>hv.other (fun e=>hne e.symm)⟩
theorem qb11 (a:List UInt8):(ba a).toList=a:=by rw [Aq,qe1]
theorem qx10 (s:ByteArray) (w:World) (hs:s.size≤1000000000) :
  Calls Aj 123 #[Ac s] w fun e w'=>e= .returned (.tuple #[Ac (ba (qp2 s.data.toList).1),Ac (ba (qp2 s.data.toList).2.1),Ae (qp2 s.data.toList).2.2])∧Below w.heap.size w w':=by
 have W:=fun a:List UInt8=>(List.dropWhile_sublist (l:=a) qb2).length_le;have c1:∀ w1,Cell w.heap.size (Ac s) 9 w1→_:=fun w1 h=>qj22 h (Ag _) (ql10 s w.heap.size w1 hs h);have hl0:=W s.data.toList;rw [← Bh]at hl0;obtain⟨r,hr⟩:∃ r,s.data.toList.dropWhile qb2=r:=⟨_,rfl⟩;obtain⟨a,ha⟩:∃ a,s.data.toList.takeWhile qb2=a:=⟨_,rfl⟩;have c2:∀ w1,Cell w.heap.size (Ac (ba r)) 9 w1→Cell (w.heap.size+1) (Ae true) 4 w1→_:=fun w1 h hc=>qa16 (ba r) w.heap.size (w.heap.size+1) w.heap.size w1 (by rw [qs1,← hr];omega) h hc (by omega) (Ag _) (by omega);have hps:qp2 s.data.toList=(a,if r.head?=some 46 then r.tail.takeWhile qb2 else [],(if r.head?=some 46 then r.tail.dropWhile qb2 else r).isEmpty && (!a.isEmpty || !(if r.head?=some 46 then r.tail.takeWhile qb2 else []).isEmpty)):=by rw [← hr,← ha];rfl
 rw [hr,ha]at c1;rw [hr]at hl0;rw [hps];simp only;have hrl:r.length≤1000000000:=by omega
 clear hps hr ha hl0;have ta:=qb11 a
 have two:∀ w1,w1=(w.alloc (Af #[Ac s] 9)).alloc (Af #[Ae true] 4)→Cell w.heap.size (Ac s) 9 w1∧Cell (w.heap.size+1) (Ae true) 4 w1∧Below w.heap.size w w1:=by
  rintro w1 rfl;refine⟨qb (qr w _) _,?_,((Ao _ _).alloc (Ag _) _).alloc (by simp) _⟩;have:=qr (w.alloc (Af #[Ac s] 9)) (Af #[Ae true] 4);have e:(w.alloc (Af #[Ac s] 9)).heap.size=w.heap.size+1:=by simp
  rw [e]at this;exact this
 have ct:=qz15 s w;by_cases hdot:r.head?=some 46
 ·have e1:dotL r= [46]:=by unfold dotL;rw [if_pos hdot]
  have e2:dotR r=r.tail:=by unfold dotR;rw [if_pos hdot]
  rw [qe1,e1,e2]at c2;simp only [if_pos hdot];have hl1:r.tail.length≤1000000000:=by rw [List.length_tail];omega
  generalize r.tail=q at *;clear e1 e2 hdot;have c3:∀ w1,Cell w.heap.size (Ac (ba q)) 9 w1→_:=fun w1 h=>qj22 h (Ag _) (ql10 (ba q) w.heap.size w1 (by rw [qs1];omega) h);rw [qe1]at c3;have hl2:=W q;generalize q.takeWhile qb2=b at *;generalize q.dropWhile qb2=z at *;have c4:∀ w1,Cell w.heap.size (Ac (ba z)) 9 w1→_:=fun w1 h=>qj22 h (Ag _) (qx14 (ba z) w.heap.size w1 (by rw [qs1];omega) h);have hz0:z.takeWhile (fun _=>true)=z:=by have:=(qm4 (p:=fun _=>true) z [] (by simp) (by simp)).1;simpa using this
  rw [qe1,hz0]at c4;clear hz0 hl2 W hrl hl1;have td:(ba [46]).toList= [46]:=qb11 _;have tz:=qb11 z;have tb:=qb11 b;go_enter Tryz.func123,Tryz.ntmps123;go_wp2_with fail
  refine ct.mono ?_;rintro e w1 ⟨rfl,rfl⟩;go_wp2_with fail
  refine(c1 _ (two _ rfl).1).mono ?_;rintro e w1 ⟨rfl,h1,b1,k1⟩;have hc1:=k1 _ _ _ (by omega) (two _ rfl).2.1;have B1:=Aside0.mk ((two _ rfl).2.2.trans b1);clear two b1 k1 c1;go_wp2_with fail
  refine(c2 w1 h1 hc1).mono ?_;rintro e w2 ⟨rfl,h2,b2⟩;have B2:=Aside0.mk (B1.out.trans b2);clear b2 c2 h1 hc1 B1;go_wp2_with fail
  refine(c3 w2 h2).mono ?_;rintro e w3 ⟨rfl,h3,b3,_⟩;have B3:=Aside0.mk (B2.out.trans b3);clear b3 c3 h2 B2;go_wp2_with fail
  refine(c4 w3 h3).mono ?_;rintro e w4 ⟨rfl,_,b4,_⟩;have B4:=Aside0.mk (B3.out.trans b4);clear b4 c4 h3 B3;go_wp2_with fail
  all_goals
   go_ret3;exact⟨by simp [*],B4.out⟩
 ·have e1:dotL r= []:=by unfold dotL;rw [if_neg hdot]
  have e2:dotR r=r:=by unfold dotR;rw [if_neg hdot]
  rw [qe1,e1,e2]at c2;simp only [if_neg hdot];clear e1 e2 hdot;have c4:∀ w1,Cell w.heap.size (Ac (ba r)) 9 w1→_:=fun w1 h=>qj22 h (Ag _) (qx14 (ba r) w.heap.size w1 (by rw [qs1];omega) h);have hz0:r.takeWhile (fun _=>true)=r:=by have:=(qm4 (p:=fun _=>true) r [] (by simp) (by simp)).1;simpa using this
  rw [qe1,hz0]at c4;clear hz0 W hrl;have td:(ba []).toList= []:=qb11 _;have tz:=qb11 r;go_enter Tryz.func123,Tryz.ntmps123;go_wp2_with fail
  refine ct.mono ?_;rintro e w1 ⟨rfl,rfl⟩;go_wp2_with fail
  refine(c1 _ (two _ rfl).1).mono ?_;rintro e w1 ⟨rfl,h1,b1,k1⟩;have hc1:=k1 _ _ _ (by omega) (two _ rfl).2.1;have B1:=Aside0.mk ((two _ rfl).2.2.trans b1);clear two b1 k1 c1;go_wp2_with fail
  refine(c2 w1 h1 hc1).mono ?_;rintro e w2 ⟨rfl,h2,b2⟩;have B2:=Aside0.mk (B1.out.trans b2);clear b2 c2 h1 hc1 B1;go_wp2_with fail
  refine(c4 w2 h2).mono ?_;rintro e w4 ⟨rfl,_,b4,_⟩;have B4:=Aside0.mk (B2.out.trans b4);clear b4 c4 h2 B2;go_wp2_with fail
  all_goals
   go_ret3;exact⟨by simp [*,ba,ByteArray.empty,ByteArray.emptyWithCapacity],B4.out⟩
end Go.Proofs.YtocdckniokhbbaaGreatDoor.FigE
namespace Go.Proofs.YtocdckniokhbbaaGreatDoor.FigF
end Go.Proofs.YtocdckniokhbbaaGreatDoor.FigF
namespace Go.Proofs.YtocdckniokhbbaaGreatDoor.FigG
open Go.RowKit Go.Shelf YtocdckniokhbbaaGreatDoorW.PrintWords YtocdckniokhbbaaGreatDoorW.PrintLast YtocdckniokhbbaaGreatDoorW.PrintMore CharB CharD CharF SpanA DecA DecE FigA FigC FigD FigE FigF
theorem chain {B:Nat} {a b c:World} (h:Below B a b) (hB:B≤a.heap.size) (h2:Below b.heap.size b c):Below B a c:=h.trans (h2.mono (Nat.le_trans hB h.size))
def Box (b:Nat) (t v:Int) (W:World):Prop:=W.heap[b]?=some (Af #[Aa Ab t,Aa Ab v] 24 (0,0))
theorem Box.lt {b:Nat} {t v:Int} {W:World} (h:Box b t v W):b<W.heap.size:=(An.1 h).1
theorem Box.below {b:Nat} {t v:Int} {W W':World} (h:Box b t v W) (hb:Below W.heap.size W W'):Box b t v W':=(hb.block b h.lt).trans h
theorem Box.c0 {b:Nat} {t v:Int} {W:World} (h:Box b t v W):W.cell? ⟨b,0,none⟩=some (Aa Ab t):=by rw [qb1 h];rfl
theorem Box.c1 {b:Nat} {t v:Int} {W:World} (h:Box b t v W):W.cell? ⟨b,1,none⟩=some (Aa Ab v):=by rw [qb1 h];rfl
theorem Box.fr {b:Nat} {t v:Int} {W:World} (h:Box b t v W) (i:Nat):W.frozen? ⟨b,i,none⟩=false:=Bd h i
theorem Box.put {b:Nat} {t v t' v':Int} {W:World} (h:Box b t v W):Box b t' v' ((W.setCell ⟨b,0,none⟩ (Aa Ab t')).setCell ⟨b,1,none⟩ (Aa Ab v')):=by
 unfold Box at h ⊢;exact qk (cs:= #[Aa Ab t',Aa Ab v]) (qk (cs:= #[Aa Ab t,Aa Ab v]) h 0 _ rfl) 1 _ rfl
theorem qs3 (t v:Int) (w:World):Box w.heap.size t v (w.alloc (Af #[Aa Ab t,Aa Ab v] 24)):=qr w _
end Go.Proofs.YtocdckniokhbbaaGreatDoor.FigG
namespace Go.Proofs.YtocdckniokhbbaaGreatDoor.FigH
open Go.RowKit Go.Shelf YtocdckniokhbbaaGreatDoorW.PrintWords YtocdckniokhbbaaGreatDoorW.PrintLast YtocdckniokhbbaaGreatDoorW.PrintMore CharB CharD CharF SpanA DecA DecE DecF DecG FigA FigB FigC FigD FigE FigF FigG
theorem qk23 (d e:Int × Int) (hd:I64 d.2) (he:I64 e.2) (w:World):Calls Aj 128 #[.agg #[Aa Ab d.1,Aa Ab d.2],.agg #[Aa Ab e.1,Aa Ab e.2]] w fun z w'=>z= .returned (.agg #[Aa Ab (qm15 (nrm d) (nrm e)).1,Aa Ab (qm15 (nrm d) (nrm e)).2])∧Below w.heap.size w w':=PF.dec_Mul.calls 41 _ _ _ _ _ _ w (qb21 (by omega) hd he)
theorem qz24 (d e:Int × Int) (hd:I64 d.2) (he:I64 e.2) (w:World):Calls Aj 127 #[.agg #[Aa Ab d.1,Aa Ab d.2],.agg #[Aa Ab e.1,Aa Ab e.2]] w fun z w'=>z= .returned (.agg #[Aa Ab (ql17 (nrm d) (nrm e)).1,Aa Ab (ql17 (nrm d) (nrm e)).2])∧Below w.heap.size w w':=PF.dec_Add.calls 41 _ _ _ _ _ _ w (qd21 (by omega) hd he)
theorem qi22 (w:World):Calls Aj 125 #[Aa Ab 10] w fun z w'=>z= .returned (.agg #[Aa Ab 0,Aa Ab 10000000])∧Below w.heap.size w w':=PF.dec_Int.calls 41 10 0 10000000 w (by rw [qc21 (by omega) (by unfold I64;omega)];decide)
theorem nm_i64 {a:Int × Int} (h:Nm a):I64 a.2:=by unfold Nm at h;unfold I64;omega
theorem qh23 (s:Int):Nm (ql20 s):=by unfold ql20 Nm;split;simp;split<;>simp
theorem nm_addN (s:Int):Nm (qm17 s):=by unfold qm17 Nm;split;simp;split;simp;simp;omega
theorem nrm_Nm {a:Int × Int} (h:Nm a):Nm (nrm a):=by rw [qi14 h];exact h
theorem qr13 (v:Int):0≤ab v:=by unfold ab;split<;>omega
theorem nm_mul {a b:Int × Int} (ha:Nm a) (hb:Nm b):Nm (qm15 (nrm a) (nrm b)):=by
 unfold qm15
 split
 ·right;simp
 ·split
  ·exact qh23 _
  ·exact nm_mk _ _ (Int.ediv_nonneg (Int.mul_nonneg (qr13 _) (qr13 _)) (by omega))
theorem nm_add {a b:Int × Int} (ha:Nm a) (hb:Nm b):Nm (ql17 a b):=by
 unfold ql17
 repeat' split
 all_goals first | exact nm_addN _ | assumption | (right;simp)
theorem qw6 (s:List UInt8):litP s=if(qp2 s).2.2=true then some ((qp2 s).1,(qp2 s).2.1)else none:=by
 unfold litP qp2;simp only;generalize s.takeWhile qb2=a
 cases hr:s.dropWhile qb2 with
 | nil=>cases a<;>simp
 | cons c r=>
  simp only [List.head?_cons,List.tail_cons];rw [if_neg (by simp)];by_cases hc:c=46
  ·subst hc;simp only [if_true];by_cases ha:r.all qb2=true
   ·have h1:r.takeWhile qb2=r:=by have:=(qm4 r [] ha (by simp)).1;simpa using this
    have h2:r.dropWhile qb2= []:=by have:=(qm4 r [] ha (by simp)).2;simpa using this
    rw [h1,h2]
    cases a<;>cases r<;>simp_all
   ·have h2:r.dropWhile qb2≠ []:=by
     intro e;apply ha;have:=List.takeWhile_append_dropWhile (p:=qb2) (l:=r);rw [e,List.append_nil]at this;rw [← this];exact List.all_takeWhile
    have h3:(r.dropWhile qb2).isEmpty=false:=by cases hq:r.dropWhile qb2 with | nil=>exact absurd hq h2 | cons d t=>rfl
    have ha':r.all qb2=false:=by simpa using ha
    simp [h3,ha']
  ·simp [hc]
theorem qs23 (s:ByteArray) (w:World) (hs:s.size≤1000000000) (h:(qp2 s.data.toList).2.2=false) :
  Calls Aj 90 #[Ac s] w fun e w'=>e= .returned (.tuple #[.agg #[Aa Ab 0,Aa Ab 0],Ae false])∧Below w.heap.size w w':=by
 have cp:=fun W=>qx10 s W hs;rw [h]at cp;clear h;generalize (qp2 s.data.toList).1=a at *;generalize (qp2 s.data.toList).2.1=b at *;have hB:=Aside0.mk ((Ao w.heap.size w).alloc (Ag _) (Af #[Aa Ab 0,Aa Ab 0] 24));have hX:=Aside0.mk (qs3 0 0 w);go_enter Tryz.func90,Tryz.ntmps90;go_wp2_with fail
 refine(cp _).mono ?_;rintro e w1 ⟨rfl,b1⟩;have B1:=Aside0.mk (hB.out.trans (b1.mono (by simp)));have X1:=hX.out.below b1;have HX1:=Aside0.mk X1;have g0:=X1.c0;have g1:=X1.c1;have f0:=X1.fr 0;have f1:=X1.fr 1;clear b1 X1;go_wp2_with fail
 refine bodyPost_ret (qd1 rfl _ _ w.heap.size 24 #[Aa Ab 0,Aa Ab 0] (0,0) _ rfl (HX1.out.put) AC rfl zm) rfl ?_;exact⟨rfl,(B1.out.setCell (p:=⟨w.heap.size,0,none⟩) (Ag _) _).setCell (p:=⟨w.heap.size,1,none⟩) (Ag _) _⟩
def Row8 (b:Nat) (l:List UInt8) (W:World):Prop:=b<W.heap.size∧ ∀ j (h:j<l.length),W.cell? ⟨b,j,none⟩=some (.int .u8 (l[j].toNat:Int))
theorem Row8.below {b:Nat} {l:List UInt8} {W W':World} (h:Row8 b l W) (hb:Below W.heap.size W W'):Row8 b l W':=
 ⟨AW h.1 hb.size,fun j hj=>(hb.cell (p:=⟨b,j,none⟩) h.1).trans (h.2 j hj)⟩
theorem cell_ne {W:World} {p q:Addr} (v:Value) (h:p.block≠q.block):(W.setCell p v).cell? q=W.cell? q:=by
 unfold World.cell?;rw [AX W p v q.block (fun e=>h e.symm)]
theorem Row8.put {b:Nat} {l:List UInt8} {W:World} (h:Row8 b l W) (c i:Nat) (v:Value) (hne:c≠b):Row8 b l (W.setCell ⟨c,i,none⟩ v):=
 ⟨by simpa using h.1,fun j hj=>(cell_ne v hne).trans (h.2 j hj)⟩
theorem qf7 {b:Nat} {t v:Int} {W:World} (h:Box b t v W) (c i:Nat) (u:Value) (hne:c≠b):Box b t v (W.setCell ⟨c,i,none⟩ u):=by
 unfold Box at h ⊢;rw [AX _ _ _ b (fun e=>hne (by simpa using e.symm))];exact h
structure LS (a d t b:Nat) (l:List UInt8) (n:Int × Int) (w0 W:World):Prop where
 res:Box a 0 0 W
 num:Box d n.1 n.2 W
 ten:Box t 0 10000000 W
 row:Row8 b l W
 bel:Below a w0 W
theorem LS.below {a d t b:Nat} {l:List UInt8} {n:Int × Int} {w0 W W':World} (h:LS a d t b l n w0 W) (hb:Below W.heap.size W W'):LS a d t b l n w0 W':=
 ⟨h.res.below hb,h.num.below hb,h.ten.below hb,h.row.below hb,h.bel.trans (hb.mono (Ah h.res.lt))⟩
theorem LS.put {a d t b:Nat} {l:List UInt8} {n m:Int × Int} {w0 W:World} (h:LS a d t b l n w0 W) (h1:d≠a) (h2:d≠t) (h3:d≠b) (h4:a≤d):LS a d t b l m w0 ((W.setCell ⟨d,0,none⟩ (Aa Ab m.1)).setCell ⟨d,1,none⟩ (Aa Ab m.2)):=
 ⟨qf7 (qf7 h.res _ _ _ h1) _ _ _ h1,h.num.put,qf7 (qf7 h.ten _ _ _ h2) _ _ _ h2,(h.row.put _ _ _ h3).put _ _ _ h3,(h.bel.setCell (p:=⟨d,0,none⟩) h4 _).setCell (p:=⟨d,1,none⟩) h4 _⟩
theorem conv_in (s:ByteArray) (W:World):(convert 9 160 (Ac s)).run Aj W= .ok (Ad (some ⟨W.heap.size,0,none⟩) s.size (grownCap W s.size 0 5)) (Lib.bytesWorld W 5 s):=Lib.run_convert_string_bytes W _ _ _ s (u:= .string) zm zm zm
theorem qn24 (l:List UInt8) (W:World):Row8 W.heap.size l (Lib.bytesWorld W 5 (ba l)):=
 ⟨by rw [Lib.bytesWorld_size];omega,fun j hj=>by rw [Lib.bytesWorld_cell W _ _ j (by rw [qs1];exact hj),qe1,getD_at _ _ hj]⟩
theorem qb17 (s:ByteArray) (W:World):Below W.heap.size W (Lib.bytesWorld W 5 s):=by
 unfold Lib.bytesWorld;exact Lib.below_freeze ((AQ (Ao W.heap.size W)).alloc (Ag _) _) (p:=⟨W.heap.size,_,none⟩) (Ag _) _
theorem rep6:(⟨(Lib.repeatL (⟨#[48]⟩:ByteArray).data.toList 6).toArray⟩:ByteArray)=ba [48,48,48,48,48,48]:=by decide +kernel
theorem qq22 (w:World):Calls Aj 124 #[Ac ⟨#[48]⟩,Aa Ab 6] w fun e w'=>e= .returned (Ac (ba [48,48,48,48,48,48]))∧Below w.heap.size w w':=by
 have:=Tryz.strings_Repeat ⟨#[48]⟩ 6 w (by omega) (by show 1*6≤_;omega);rw [rep6]at this;exact this
theorem qy15 (a:List UInt8) (w:World):Calls Aj 126 #[Ac (ba a),Ac ⟨#[48]⟩] w fun e w'=>e= .returned (Ac (ba (a.dropWhile (· == 48))))∧w'=w:=Tryz.strings_TrimLeft_one (ba a) 48 (by decide) w
theorem six_cut (b:List UInt8):(ba b ++ ba [48,48,48,48,48,48]).extract 0 6=ba (qb15 b):=qe2 (by rw [qo1,ba_app,qe1,qe1];rfl)
theorem qr23 (s:ByteArray) (w:World) (hs:s.size≤1000000000) (h:(qp2 s.data.toList).2.2=true) :
  Calls Aj 90 #[Ac s] w fun e w'=>e= .returned (.tuple #[.agg #[Aa Ab (qt7 s.data.toList).1.1,Aa Ab (qt7 s.data.toList).1.2],Ae true])∧Below w.heap.size w w':=by
 have cp:=fun W=>qx10 s W hs;rw [h]at cp;have hl:qt7 s.data.toList=(mk false (qf12 ((qp2 s.data.toList).1 ++ qb15 (qp2 s.data.toList).2.1)),true):=by unfold qt7;rw [qw6,h];rfl
 have hp:litP s.data.toList=some ((qp2 s.data.toList).1,(qp2 s.data.toList).2.1):=by rw [qw6,h];rfl
 have hall:=qn15 hp
 have ha1:(qp2 s.data.toList).1.length≤1000000000:=by
  have:(qp2 s.data.toList).1.length≤s.data.toList.length:=(List.takeWhile_sublist _).length_le;rw [← Bh]at this;omega
 have hb1:(qp2 s.data.toList).2.1.length≤1000000000:=by
  have h1:(s.data.toList.dropWhile qb2).length≤s.data.toList.length:=(List.dropWhile_sublist _).length_le
  have h2:(qp2 s.data.toList).2.1.length≤(s.data.toList.dropWhile qb2).length:=by
   unfold qp2;simp only
   split
   ·have:=(List.takeWhile_sublist (l:=(s.data.toList.dropWhile qb2).tail) qb2).length_le;rw [List.length_tail]at this;omega
   ·simp
  rw [← Bh]at h1;omega
 rw [hl,← qh24 _ _ hall.1 hall.2];clear h hl hp hs;generalize (qp2 s.data.toList).1=a at *;generalize (qp2 s.data.toList).2.1=b at *;have ha2:(a.dropWhile (· == 48)).length≤a.length:=(List.dropWhile_sublist _).length_le;have hdig:(a.dropWhile (· == 48) ++ qb15 b).all qb2=true:=by rw [List.all_append,qj12 a hall.1,qd14 b hall.2];rfl
 have hb6:(qb15 b).length≤6:=by unfold qb15;rw [List.length_take];omega
 have ct:=fun W=>qy15 a W;have hcat:ba (a.dropWhile (· == 48)) ++ ba (qb15 b)=ba (a.dropWhile (· == 48) ++ qb15 b):=ba_app _ _;generalize hL:a.dropWhile (· == 48) ++ qb15 b=L at *;have hLl:L.length≤1000000006:=by rw [← hL,Ar];omega
 have hB:=Aside0.mk ((Ao w.heap.size w).alloc (Ag _) (Af #[Aa Ab 0,Aa Ab 0] 24));have hX:=Aside0.mk (qs3 0 0 w);have s1:(ba b).size≤1000000000:=by rw [qs1];exact hb1
 have s2:(ba [48,48,48,48,48,48]).size≤6:=Ag _;have s5:6≤(ba [48,48,48,48,48,48]).size:=Ag _;have s3:(ba (a.dropWhile (· == 48))).size≤1000000000:=by rw [qs1];omega
 have s4:(ba (qb15 b)).size≤6:=by rw [qs1];exact hb6
 have hcut:=six_cut b;obtain⟨R,hR⟩:∃ R,L.foldl qd10 (0,0)=R:=⟨_,rfl⟩;rw [hR];have HR:=Aside0.mk hR;have HD:=Aside0.mk hdig;have HC:=Aside0.mk (AZ hcat hL);clear hR hdig hcat hL hall ha1 hb1 ha2 hb6;generalize a.dropWhile (· == 48)=a' at *;go_enter Tryz.func90,Tryz.ntmps90;go_wp2_with fail
 refine(cp _).mono ?_;rintro e w1 ⟨rfl,b1⟩;have B1:=Aside0.mk (hB.out.trans (b1.mono (by simp)));have X1:=Aside0.mk (hX.out.below b1);clear b1 cp hB hX;go_wp2_with fail
 refine(qq22 _).mono ?_;rintro e w2 ⟨rfl,b2⟩;have B2:=Aside0.mk (chain B1.out (Ag _) b2);have X2:=Aside0.mk (X1.out.below b2);clear b2 B1 X1;go_wp2_with fail
 refine(qi22 _).mono ?_;rintro e w3 ⟨rfl,b3⟩;have Y3:=(qs3 0 0 w2).below b3;have Z2:=(X2.out.below ((Ao w2.heap.size w2).alloc (Ag _) (Af #[Aa Ab 0,Aa Ab 0] 24))).below b3;have B3:=chain (B2.out.alloc B2.out.size (Af #[Aa Ab 0,Aa Ab 0] 24)) (Ag _) b3;have g1:=X2.out.lt;have g2:=Y3.lt;have al:=(Ao w3.heap.size w3).alloc (Ag _) (Af #[Aa Ab 0,Aa Ab 10000000] 24);obtain⟨W3,hW3⟩:∃ W3,W3=w3.alloc (Af #[Aa Ab 0,Aa Ab 10000000] 24):=⟨_,rfl⟩;have hsz:W3.heap.size=w3.heap.size+1:=by rw [hW3];simp
 have cb:=qb17 (ba L) W3;have hrow:=qn24 L W3;rw [hsz]at hrow;have hten:Box w3.heap.size 0 10000000 W3:=by rw [hW3];exact qs3 0 10000000 w3
 rw [← hW3]at al
 have hLS:LS w.heap.size w2.heap.size w3.heap.size (w3.heap.size+1) L (0,0) w (Lib.bytesWorld W3 5 (ba L)):=
  ⟨(Z2.below al).below cb,(Y3.below al).below cb,hten.below cb,hrow,chain (chain B3 (Ag _) al) (Ag _) cb⟩
 have hcv:=conv_in (ba L) W3;rw [hW3]at hcv hLS;have HS:=Aside0.mk hLS;have hcat:=HC.out.1;clear hLS hrow hten cb al Z2 Y3 B3 b3 hW3 hsz W3 HC B2 X2;go_wp2_with fail
 refine(ct _).mono ?_;rintro e w4 ⟨rfl,rfl⟩;clear ct;go_wp2_with fail
 obtain⟨cap,hcap⟩:∃ cap,grownCap (w3.alloc (Af #[Aa Ab 0,Aa Ab 10000000] 24)) (ba L).size 0 5=cap:=⟨_,rfl⟩;have hsz1:(ba L).size≤L.length:=by rw [qs1];exact Ag _
 have hsz2:L.length≤(ba L).size:=by rw [qs1];exact Ag _
 rw [hcap];clear hcap hcv hcat hcut s1 s2 s3 s4 s5;have g12:w2.heap.size≠w.heap.size∧w2.heap.size≠w3.heap.size∧w2.heap.size≠w3.heap.size+1∧w.heap.size≤w2.heap.size:=by omega
 have G:=Aside0.mk g12;clear g12;go_loopg [32] L.length (fun kq v32 w'=>∃ (i:Nat) (n:Int × Int),v32= Aa Ab (i:Int)∧Aside0 (LS w.heap.size w2.heap.size w3.heap.size (w3.heap.size+1) L n w w')∧Aside0 ((L.drop i).foldl qd10 n=R)∧Aside0 (Nm n)∧Aside0 (i+kq=L.length))
 case atStart=>exact⟨0,(0,0),rfl,HS,⟨by rw [List.drop_zero];exact HR.out⟩,⟨.inl ⟨rfl,by omega,by omega⟩⟩,⟨by omega⟩⟩
 case round=>
  obtain⟨i,n,rfl,HS1,HR1,HN,HK⟩:=hrel;have hK:=HK.out;clear HS HR;by_cases hi:i<L.length
  ·have hR:=HR1.out;rw [List.drop_eq_getElem_cons hi,List.foldl_cons]at hR;have hdg:=List.all_eq_true.1 HD.out L[i] (List.getElem_mem hi);rw [qm3]at hdg;have hS1:=HS1.out;have hcell:=hS1.row.2 i hi;have n0:=hS1.num.c0;have n1:=hS1.num.c1;have t0:=hS1.ten.c0;have t1:=hS1.ten.c1;have hN:=HN.out;have hm:=qk23 n (0,10000000) (nm_i64 hN) (by unfold I64;omega) wr;have hmn:Nm (qm15 (nrm n) (nrm (0,10000000))):=nm_mul hN (.inl ⟨rfl,by omega,by omega⟩);obtain⟨k1,rfl⟩:∃ k1,gk=k1+1:=⟨gk - 1,by omega⟩;generalize hc:L[i]=c at *;have ha:=fun W=>qz24 (qm15 (nrm n) (nrm (0,10000000))) (0,(c.toNat:Int) - 48) (nm_i64 hmn) (by unfold I64;simp only;omega) W;have hstep:qd10 n c=ql17 (nrm (qm15 (nrm n) (nrm (0,10000000)))) (nrm (0,(c.toNat:Int) - 48)):=rfl;rw [← hstep]at ha;have hsn:Nm (qd10 n c):=nm_add (nrm_Nm hmn) (nrm_Nm (.inl ⟨rfl,by simp only;omega,by simp only;omega⟩));generalize qd10 n c=n2 at *;generalize qm15 (nrm n) (nrm (0,10000000))=m at *;have HR2:=Aside0.mk hR;have HN2:=Aside0.mk hsn;obtain⟨dg1,dg2⟩:=hdg;clear hR hstep hsn hmn hN hc HR1 HN;go_wp2_with fail
   refine hm.mono ?_;rintro e w5 ⟨rfl,b5⟩;have hS2:=hS1.below b5;clear hS1 HS1 b5;go_wp2_with fail
   refine(ha _).mono ?_;rintro e w6 ⟨rfl,b6⟩;have hS3:=hS2.below b6;have HS4:=Aside0.mk (hS3.put (m:=n2) G.out.1 G.out.2.1 G.out.2.2.1 G.out.2.2.2);have q0:=hS3.num.c0;have q1:=hS3.num.c1;have z0:=hS3.num.fr 0;have z1:=hS3.num.fr 1;clear hS2 hS3 b6;go_wp2_with fail
   go_roundg k1
   case measure=>omega
   case rel=>exact⟨i+1,n2,by go_num,HS4,HR2,HN2,⟨by omega⟩⟩
  ·have hR:=HR1.out;rw [List.drop_eq_nil_of_le (by omega)]at hR;have hn:n=R:=hR;subst hn;have hS1:=HS1.out;have n0:=hS1.num.c0;have n1:=hS1.num.c1;have r0:=hS1.res.c0;have r1:=hS1.res.c1;have z0:=hS1.res.fr 0;have z1:=hS1.res.fr 1;clear hS1 hR HR1;go_wp2_with fail
   refine bodyPost_ret (qd1 rfl _ _ w.heap.size 24 #[Aa Ab n.1,Aa Ab n.2] (0,0) _ rfl (HS1.out.res.put) AC rfl zm) rfl ?_;exact⟨rfl,(HS1.out.bel.setCell (p:=⟨w.heap.size,0,none⟩) (Ag _) _).setCell (p:=⟨w.heap.size,1,none⟩) (Ag _) _⟩
theorem qn8 (s:ByteArray) (w:World) (hs:s.size≤1000000000) :
  Calls Aj 90 #[Ac s] w fun e w'=>e= .returned (.tuple #[.agg #[Aa Ab (qt7 s.data.toList).1.1,Aa Ab (qt7 s.data.toList).1.2],Ae (qt7 s.data.toList).2])∧Below w.heap.size w w':=by
 cases h:(qp2 s.data.toList).2.2 with
 | false=>
  have e:qt7 s.data.toList=((0,0),false):=by unfold qt7;rw [qw6,h];rfl
  rw [e];exact qs23 s w hs h
 | true=>
  have e:(qt7 s.data.toList).2=true:=by unfold qt7;rw [qw6,h];rfl
  rw [e];exact qr23 s w hs h
end Go.Proofs.YtocdckniokhbbaaGreatDoor.FigH
namespace Go.Proofs.YtocdckniokhbbaaGreatDoor.FigI
open Go.RowKit Go.Shelf YtocdckniokhbbaaGreatDoorW.PrintWords YtocdckniokhbbaaGreatDoorW.PrintLast YtocdckniokhbbaaGreatDoorW.PrintMore CharB CharD CharF SpanA DecA DecE DecF DecG FigA FigB FigC FigD FigE FigF FigG FigH
abbrev qz5 (w:World):Prop:=Lib.Utf8Tabs 0 1 w
theorem qj1 {w w':World} (hT:qz5 w) (h:Below w.heap.size w w'):qz5 w':=Utf8Tabs_below hT h
theorem qb14 (w:World):PredAtRunes Aj 44 #[] sp w:=fun W x _ _=>by
 refine(qc14 (x:Int) W).mono ?_;rintro e w' ⟨rfl,m,rfl⟩;exact⟨rfl,m,rfl⟩
end Go.Proofs.YtocdckniokhbbaaGreatDoor.FigI
namespace Go.Proofs.YtocdckniokhbbaaGreatDoor.LexF
open Go.RowKit Go.Shelf YtocdckniokhbbaaGreatDoorW.PrintWords YtocdckniokhbbaaGreatDoorW.PrintLast YtocdckniokhbbaaGreatDoorW.PrintMore CharB CharD CharF SpanA FigA FigC FigD FigG LexA
def Fr (b B:Nat) (w w':World):Prop:=Below b w w'∧ ∀ k,b<k→k<B→w'.heap[k]?=w.heap[k]?
theorem Fr.refl (b B:Nat) (w:World):Fr b B w w:=⟨Ao _ _,fun _ _ _=>rfl⟩
theorem Fr.trans {b B:Nat} {u v w:World} (h:Fr b B u v) (k:Fr b B v w):Fr b B u w:=⟨h.1.trans k.1,fun i h1 h2=>(k.2 i h1 h2).trans (h.2 i h1 h2)⟩
theorem Fr.of_below {b B C:Nat} {w w':World} (h:Below C w w') (hB:B≤C) (hb:b≤B):Fr b B w w':=⟨h.mono (by omega),fun k _ h2=>h.block k (by omega)⟩
theorem Fr.below {b B:Nat} {u v w:World} (h:Fr b B u v) (hB:B≤u.heap.size) (hb:b≤B) (k:Below v.heap.size v w):Fr b B u w:=h.trans (Fr.of_below k (Nat.le_trans hB h.1.size) hb)
theorem Fr.alloc {b B:Nat} {u v:World} (h:Fr b B u v) (hB:B≤u.heap.size) (hb:b≤B) (o:Obj):Fr b B u (v.alloc o):=h.below hB hb ((Ao _ _).alloc (Ag _) o)
theorem Fr.drew {b B:Nat} {u v:World} (h:Fr b B u v):Fr b B u v.drew:=⟨AQ h.1,h.2⟩
theorem Fr.drewN {b B:Nat} {u v:World} (h:Fr b B u v) (n:Nat):Fr b B u (v.drewN n):=⟨CharB.below_drewN h.1 n,h.2⟩
theorem Fr.set {b B:Nat} {u v:World} (h:Fr b B u v) {g:Nat} (hg:g=b∨B≤g) (hb:b≤B) (j:Nat) (x:Value):Fr b B u (v.setCell ⟨g,j,none⟩ x):=by
 refine⟨h.1.setCell (p:=⟨g,j,none⟩) (by show b≤g;omega) x,fun k h1 h2=>?_⟩;rw [AX _ _ _ k (by show k≠g;omega)];exact h.2 k h1 h2
theorem Fr.grown {b B:Nat} {u v w:World} (h:Fr b B u v) {row:Option Nat} (hg:v.grownBy w row) (hB:B≤u.heap.size) (hb:b≤B) (hr:∀ g,row=some g→B≤g):Fr b B u w:=by
 have hB':=Nat.le_trans hB h.1.size;refine⟨h.1.grown hg (by omega) (fun g e=>Nat.le_trans hb (hr g e)),fun k h1 h2=>?_⟩;rw [hg.block k (by omega) (fun e=>by have:=hr k e.symm;omega)];exact h.2 k h1 h2
def wc (w:Wd):List Value:=[Aa Ab w.1,Ac (ba w.2.1),Aa Ab w.2.2.1,Aa Ab w.2.2.2]
def wcs (l:List Wd):List Value:=l.flatMap wc
theorem qd5 (l:List Wd):(wcs l).length=l.length*4:=by
 induction l with
 | nil=>rfl
 | cons w l ih=>simp only [wcs,List.flatMap_cons,Ar,AK]at ih ⊢;rw [ih];simp [wc];omega
theorem qi7 (l m:List Wd):wcs (l ++ m)=wcs l ++ wcs m:=by simp [wcs]
theorem qv8 (w:Wd):wcs [w]=wc w:=by simp [wcs]
def LB (b B:Nat) (s:ByteArray) (l:List Wd) (x:Bool) (W:World):Prop:=
 ∃ v,W.heap[b]?=some (Af #[Ac s,v,Ae x] 90 (0,0))∧W.ownsRow B 93 4 v l.length (wcs l)
theorem LB.lt {b B:Nat} {s:ByteArray} {l:List Wd} {x:Bool} {W:World} (h:LB b B s l x W):b<W.heap.size:=by obtain⟨v,h1,_⟩:=h;exact(An.1 h1).1
theorem LB.drew {b B:Nat} {s:ByteArray} {l:List Wd} {x:Bool} {W:World} (h:LB b B s l x W):LB b B s l x W.drew:=h
theorem LB.drewN {b B:Nat} {s:ByteArray} {l:List Wd} {x:Bool} {W:World} (h:LB b B s l x W) (n:Nat):LB b B s l x (W.drewN n):=h
theorem qb4 {B:Nat} {v:Value} {n:Nat} {xs:List Value} {t:TypeId} {m:Nat} {W W':World} (h:W.ownsRow B t m v n xs) (hb:Below W.heap.size W W'):W'.ownsRow B t m v n xs:=by
 refine⟨h.1,?_⟩
 rcases h.2 with hn | ⟨g,cap,cur,rfl,hB,hg,r⟩
 ·exact .inl hn
 ·refine .inr ⟨g,cap,cur,rfl,hB,?_,r⟩;rw [hb.block g (An.1 hg).1];exact hg
theorem LB.below {b B:Nat} {s:ByteArray} {l:List Wd} {x:Bool} {W W':World} (h:LB b B s l x W) (hb:Below W.heap.size W W'):LB b B s l x W':=by
 obtain⟨v,h1,h2⟩:=h;exact⟨v,(hb.block b (An.1 h1).1).trans h1,qb4 h2 hb⟩
def qr1 (b:Nat):Value:= .pointer (some ⟨b,0,none⟩)
theorem qb8 {b B:Nat} (hb:b<B) {v:Value} {n:Nat} {xs:List Value} {t:TypeId} {m:Nat} {W:World} (h:W.ownsRow B t m v n xs):v.ownBlock≠some b:=fun e=>by have:=(h.lt b e).1;omega
theorem qz6 {B:Nat} {v:Value} {n:Nat} {xs:List Value} {t:TypeId} {m:Nat} {W:World} (h:W.ownsRow B t m v n xs):∀ g,v.ownBlock=some g→B≤g:=fun g e=>(h.lt g e).1
theorem qq2 (W:World) (b j:Nat) (v:Value):W.grownBy (W.setCell ⟨b,j,none⟩ v) (some b):=
 ⟨rfl,rfl,rfl,(KeepsWalks.setCell W _ v).size,fun k _ hk=>AX _ _ _ k (fun e=>hk (by rw [e]))⟩
theorem qu10 {W:World} {b:Nat} {cs:Array Value} {t:TypeId} (h:W.heap[b]?=some (Af cs t (0,0))) (j:Nat) (u:Value):(W.setCell ⟨b,j,none⟩ u).heap[b]?=some (Af (cs.setIfInBounds j u) t (0,0)):=by
 obtain⟨hlt,hk⟩:=An.1 h;show(W.heap.modify b _)[b]?=_;rw [Array.getElem?_eq_getElem (by rw [Array.size_modify];exact hlt),Array.getElem_modify_self,hk];rfl
theorem LB.put_s {b B:Nat} (hb:b<B) {s s':ByteArray} {l:List Wd} {x:Bool} {W:World} (h:LB b B s l x W):LB b B s' l x (W.setCell ⟨b,0,none⟩ (Ac s')):=by
 obtain⟨v,h1,h2⟩:=h;exact⟨v,qu10 h1 0 _,h2.kept (qq2 W b 0 _) (.inr (qb8 hb h2))⟩
theorem LB.put_x {b B:Nat} (hb:b<B) {s:ByteArray} {l:List Wd} {x y:Bool} {W:World} (h:LB b B s l x W):LB b B s l y (W.setCell ⟨b,2,none⟩ (Ae y)):=by
 obtain⟨v,h1,h2⟩:=h;exact⟨v,qu10 h1 2 _,h2.kept (qq2 W b 2 _) (.inr (qb8 hb h2))⟩
theorem qo3 (b B:Nat) (s:ByteArray) (l:List Wd) (w:World) (h:LB b B s l false w) (hb:b<B) :
  Calls Aj 51 #[qr1 b] w fun e w'=>e= .returned (Ae true)∧LB b B s l true w'∧Fr b B w w':=by
 have h2:=Aside0.mk (h.put_x (y:=true) hb);have hf:=Aside0.mk ((Fr.refl b B w).set (.inl rfl) (Ah hb) 2 (Ae true));obtain⟨v,h1,_⟩:=h;have f2:w.frozen? ⟨b,2,none⟩=false:=Bd h1 2;have c2:w.cell? ⟨b,2,none⟩=some (Ae false):=by rw [qb1 h1];rfl
 clear h1;unfold qr1;go_enter Tryz.func51,Tryz.ntmps51;go_wp2_with fail
 go_ret;exact⟨rfl,h2.out,hf.out⟩
theorem infoW:(Tryz.prog.info? 93).map (fun i=>(i.zero,i.size,i.bytes))=some (some (.agg #[Aa Ab 0,Ac ⟨#[]⟩,Aa Ab 0,Aa Ab 0]),4,40):=by kernel_rfl
theorem qj2 {w:World} {B:Nat} {t:TypeId} {m n:Nat} {v:Value} {xs:List Value} (h:w.ownsRow B t m v (n+1) xs):∃ g cap,v= Ad (some ⟨g,0,none⟩) (n+1) cap:=by
 rcases h.2 with ⟨_,h0⟩ | ⟨g,cap,cur,rfl,_⟩
 ·omega
 ·exact⟨g,cap,rfl⟩
theorem qm7 (w:World) (cs:Array Value) (t:TypeId):∀ j u,cs.toList[j]?=some u→(w.alloc (Af cs t)).cell? ((⟨w.heap.size,0,none⟩:Addr).add j)=some u:=by
 intro j u hu;rw [show(⟨w.heap.size,0,none⟩:Addr).add j=⟨w.heap.size,j,none⟩ by unfold Addr.add;split<;>simp_all,qb1 (qr w _) j];simpa using hu
def Oth (b:Nat) (w w':World):Prop:=∀ k cs t,w.heap[k]?=some (Af cs t (0,0))→t≠93→k≠b→w'.heap[k]?=some (Af cs t (0,0))
theorem qs6 (b B:Nat) (s:ByteArray) (l:List Wd) (k:Int) (t r:ByteArray) (w:World) (h:LB b B s l false w) (hb:b<B) (hB:B≤w.heap.size) (hl:l.length≤1000) :
  Calls Aj 88 #[qr1 b,Aa Ab k,Ac t,Ac r] w fun e w'=>e= .returned (Ae true)∧LB b B r (l ++ [(k,t.data.toList,0,0)]) false w'∧Fr b B w w'∧Oth b w w':=by
 obtain⟨i0,hi,hz0,hz1,hz2⟩:=info_parts infoW;have HF:=Aside0.mk (Fr.refl b B w);obtain⟨v,h1,ho⟩:=h;have hlt:b<w.heap.size:=(An.1 h1).1;have c1:w.cell? ⟨b,1,none⟩=some v:=by rw [qb1 h1];rfl
 have hne:=qb8 hb ho;unfold qr1;go_enter Tryz.func88,Tryz.ntmps88;go_wp2_with (at_builtin;refine wpList_append_own _ rfl _ _ 53 rfl B 93 i0 (.agg #[Aa Ab 0,Ac ⟨#[]⟩,Aa Ab 0,Aa Ab 0]) 4 40 Tryz.underlying53 hi hz0 hz1 hz2 rfl (by decide) _ _ _ rfl (ho.alloc _) ⟨w.heap.size,0,none⟩ 1 1 [Aa Ab k,Ac t,Aa Ab 0,Aa Ab 0] rfl rfl ?c1 ?c2 ?c3 ?c4 ?c5 ?_)
 case c1=>exact qm7 w #[Aa Ab k,Ac t,Aa Ab 0,Aa Ab 0] _
 case c2=>intro u hu;simp at hu;rcases hu with rfl | rfl | rfl | rfl<;>rfl
 case c3=>unfold maxLen;omega
 case c4=>omega
 case c5=>simp;omega
 intro v' w2 hown' hgrow _
 have hb2:w2.heap[b]?=some (Af #[Ac s,v,Ae false] 90 (0,0)):=by
  rw [hgrow.block b za6 (fun e=>hne e.symm),Lib.alloc_old w _ b hlt];exact h1
 have d2:w2.cell? ⟨b,1,none⟩=some v:=by rw [qb1 hb2];rfl
 have d0:w2.cell? ⟨b,0,none⟩=some (Ac s):=by rw [qb1 hb2];rfl
 have f2:w2.frozen? ⟨b,1,none⟩=false:=Bd hb2 1;have f3:w2.frozen? ⟨b,0,none⟩=false:=Bd hb2 0;obtain⟨g,cap,rfl⟩:=qj2 hown';have hne2:=qb8 hb hown';have hge:=qz6 ho;have hF2:=(HF.out.alloc hB (Ah hb) (Af #[Aa Ab k,Ac t,Aa Ab 0,Aa Ab 0] 93)).grown hgrow hB (Ah hb) hge;have HF3:=Aside0.mk ((hF2.set (.inl rfl) (Ah hb) 1 (Ad (some ⟨g,0,none⟩) (l.length+1) cap)).set (.inl rfl) (Ah hb) 0 (Ac r));have e4:wcs l ++ [Aa Ab k,Ac t,Aa Ab 0,Aa Ab 0]=wcs (l ++ [(k,t.data.toList,0,0)]):=by rw [qi7,qv8];rfl
 rw [e4]at hown'
 have HL:Aside0 (LB b B r (l ++ [(k,t.data.toList,0,0)]) false ((w2.setCell ⟨b,1,none⟩ (Ad (some ⟨g,0,none⟩) (l.length+1) cap)).setCell ⟨b,0,none⟩ (Ac r))):=
  ⟨_,qu10 (qu10 hb2 1 _) 0 (Ac r),by rw [Ar];exact(hown'.kept (qq2 w2 b 1 _) (.inr hne2)).kept (qq2 _ b 0 _) (.inr hne2)⟩
 have HO:Aside0 (Oth b w ((w2.setCell ⟨b,1,none⟩ (Ad (some ⟨g,0,none⟩) (l.length+1) cap)).setCell ⟨b,0,none⟩ (Ac r))):=⟨by
  intro k cs t0 hk ht hkb;have hkl:k<w.heap.size:=(An.1 hk).1
  rw [AX _ _ _ k hkb,AX _ _ _ k hkb,hgrow.block k za6 (fun e=>by
   rcases ho.2 with ⟨rfl,_⟩ | ⟨g',cap',cur,rfl,_,hg',_⟩
   ·simp [BP]at e
   ·obtain rfl:g'=k:=by simpa [BP]using e.symm
    rw [hk]at hg'
    cases hg'
    exact ht rfl),Lib.alloc_old w _ k hkl]
  exact hk⟩
 clear hne hge hne2 hgrow hown' ho h1 c1 hF2 e4 hb2;go_wp2_with fail
 go_ret;exact⟨rfl,HL.out,HF3.out,HO.out⟩
theorem qq5 (b B:Nat) (s:ByteArray) (l:List Wd) (k:Int) (t r:ByteArray) (w:World) (h:LB b B s l false w) (hb:b<B) (hB:B≤w.heap.size) (hl:l.length≤1000) :
  Calls Aj 88 #[qr1 b,Aa Ab k,Ac t,Ac r] w fun e w'=>e= .returned (Ae true)∧LB b B r (l ++ [(k,t.data.toList,0,0)]) false w'∧Fr b B w w':=
 (qs6 b B s l k t r w h hb hB hl).mono fun e w' ⟨h1,h2,h3,_⟩=>⟨h1,h2,h3⟩
theorem ql3 {w:World} {B:Nat} {t:TypeId} {m n:Nat} {v:Value} {xs:List Value} (h:w.ownsRow B t m v n xs):∃ A cap,v= Ad A n cap:=by
 rcases h.2 with ⟨rfl,rfl⟩ | ⟨g,cap,cur,rfl,_⟩
 ·exact⟨none,0,rfl⟩
 ·exact⟨some ⟨g,0,none⟩,cap,rfl⟩
theorem qt2 {w:World} {B:Nat} {t:TypeId} {l:List Wd} {x:Wd} {g cap:Nat} (h:w.ownsRow B t 4 (Ad (some ⟨g,0,none⟩) (l.length+1) cap) (l.length+1) (wcs (l ++ [x]))):∀ i u,(wc x)[i]?=some u→w.cell? ⟨g,l.length*4+i,none⟩=some u:=by
 intro i u hu;have:=h.cells (g:=g) rfl (l.length*4+i) u (by rw [qi7,List.getElem?_append_right (by rw [qd5];omega),qd5,qv8,Nat.add_sub_cancel_left];exact hu)
 rwa [show(⟨g,0,none⟩:Addr).add (l.length*4+i)=⟨g,l.length*4+i,none⟩ by unfold Addr.add;split<;>simp_all]at this
theorem qh15 (x:List UInt8):(!opensL.contains x)=(!x == [64] && !x == [58,58] && !x == [40] && !x == [91] && !x == [44]):=by
 unfold opensL;simp only [List.contains_cons,List.contains_nil,Bool.not_or,Bool.or_false,Bool.and_assoc]
theorem qv20 (b B:Nat) (s:ByteArray) (w:World) (h:LB b B s [] false w) :
  Calls Aj 92 #[qr1 b] w fun e w'=>e= .returned (Ae false)∧Below w.heap.size w w':=by
 obtain⟨v,h1,ho⟩:=h;obtain⟨A,cap,rfl⟩:=ql3 ho;have c1:w.cell? ⟨b,1,none⟩=some (Ad A (List.length ([]:List Wd)) cap):=by rw [qb1 h1];rfl
 have c1:w.cell? ⟨b,1,none⟩=some (Ad A 0 cap):=c1;clear h1 ho;unfold qr1;go_enter Tryz.func92,Tryz.ntmps92;go_wp2_with fail
 go_ret;exact⟨rfl,Ao _ _⟩
theorem qu20 (b B:Nat) (s:ByteArray) (l:List Wd) (k:Int) (t:ByteArray) (d1 d2:Int) (w:World) (h:LB b B s (l ++ [(k,t.data.toList,d1,d2)]) false w) (hl:l.length≤1000) :
  Calls Aj 92 #[qr1 b] w fun e w'=>e= .returned (Ae (qe3 (l ++ [(k,t.data.toList,d1,d2)])))∧Below w.heap.size w w':=by
 obtain⟨v,h1,ho⟩:=h;rw [Ar]at ho;obtain⟨g,cap,rfl⟩:=qj2 ho;have c1:w.cell? ⟨b,1,none⟩=some (Ad (some ⟨g,0,none⟩) (l.length+1) cap):=by rw [qb1 h1];rfl
 have hc:=qt2 ho;have x0:w.cell? ⟨g,l.length*4,none⟩=some (Aa Ab k):=hc 0 _ rfl;have x1:w.cell? ⟨g,l.length*4+1,none⟩=some (Ac t):=hc 1 _ rfl;have x2:w.cell? ⟨g,l.length*4+2,none⟩=some (Aa Ab d1):=hc 2 _ rfl;have x3:w.cell? ⟨g,l.length*4+3,none⟩=some (Aa Ab d2):=hc 3 _ rfl;have hbl:b<w.heap.size:=(An.1 h1).1;have hgl:g<w.heap.size:=(ho.lt g rfl).2;have al:∀ (p:Addr) (u:Value),p.block<w.heap.size→w.cell? p=some u→(w.alloc (Af #[Aa Ab 0,Ac ⟨#[]⟩,Aa Ab 0,Aa Ab 0] 93)).cell? p=some u:=fun p u hp hu=>(World.cell?_alloc_lt w _ p hp).trans hu;have a1:=al _ _ hbl c1;have y0:=al _ _ hgl x0;have y1:=al _ _ hgl x1;have y2:=al _ _ hgl x2;have y3:=al _ _ hgl x3;have hwr:IntKind.i64.wrap (l.length:Int)=(l.length:Int):=IntWalk.i64_in _ (by omega);clear hc ho h1 al hbl hgl;have he:qe3 (l ++ [(k,t.data.toList,d1,d2)])=if k=5 then false else if k=1 then !(opensL.contains t.data.toList)else true:=by unfold qe3;rw [List.getLast?_concat]
 rw [he];have hB:=Aside0.mk (Ao w.heap.size w);unfold qr1;by_cases k5:k=5
 ·have q5:(k == 5)=true:=by simpa using k5
  rw [if_pos k5];clear k5 he;go_enter Tryz.func92,Tryz.ntmps92;go_wp2_with fail
  go_region
  all_goals
   go_wp2_with fail
   go_ret;refine⟨rfl,?_⟩;exact AQ (hB.out.alloc (Ag _) _)
 have q5:(k == 5)=false:=by simpa using k5
 rw [if_neg k5];by_cases k1:k=1
 ·have q1:(k !=1)=false:=by simpa using k1
  rw [if_pos k1,← Aq t];clear k5 k1 he;obtain⟨r,hr⟩:∃ r,(!opensL.contains t.toList)=r:=⟨_,rfl⟩;rw [hr];have HR:=Aside0.mk hr;clear hr;go_enter Tryz.func92,Tryz.ntmps92;go_wp2_with fail
  go_region
  all_goals
   go_wp2_with fail
   all_goals
    go_ret;refine⟨congrArg (fun x=>Ending.returned (Value.bool x)) ?_,?_⟩
    ·first | (rw [← HR.out,qh15];done) | (rw [← HR.out,qh15];simp [*];done)
    ·exact AQ (hB.out.alloc (Ag _) _)
 ·have q1:(k !=1)=true:=by simpa using k1
  rw [if_neg k1];clear k5 k1 he;go_enter Tryz.func92,Tryz.ntmps92;go_wp2_with fail
  go_region
  all_goals
   go_wp2_with fail
   go_ret;refine⟨rfl,?_⟩;exact AQ (hB.out.alloc (Ag _) _)
theorem qk13 (b B:Nat) (s:ByteArray) (l:List Wd) (w:World) (h:LB b B s l false w) (hl:l.length≤1000) :
  Calls Aj 92 #[qr1 b] w fun e w'=>e= .returned (Ae (qe3 l))∧Below w.heap.size w w':=by
 rcases List.eq_nil_or_concat l with rfl | ⟨l0,⟨k,t,d1,d2⟩,rfl⟩
 ·exact qv20 b B s w h
 ·rw [List.concat_eq_append]at h hl ⊢;exact qu20 b B s l0 k (ba t) d1 d2 w h (by simp at hl;omega)
theorem qg19 {w:World} {B:Nat} {t:TypeId} {m n g cap:Nat} {xs:List Value} (h:w.ownsRow B t m (Ad (some ⟨g,0,none⟩) n cap) n xs) (j:Nat) (u:Value) :
  (w.setCell ⟨g,j,none⟩ u).ownsRow B t m (Ad (some ⟨g,0,none⟩) n cap) n (xs.set j u):=by
 refine⟨by rw [List.length_set];exact h.1,?_⟩
 rcases h.2 with ⟨h0,_⟩ | ⟨g',cap',cur,hv,hB,hg,hn,hc,hs,ht⟩
 ·cases h0
 ·cases hv
  refine .inr ⟨g,cap,cur.setIfInBounds j u,rfl,hB,qu10 hg j u,hn,hc,by rw [Array.size_setIfInBounds];exact hs,?_⟩;rw [Array.toList_setIfInBounds,List.take_set,ht]
theorem qo22 (l:List Wd) (k:Int) (t:List UInt8) (d1 d2:Int):((wcs (l ++ [(k,t,0,0)])).set (l.length*4+2) (Aa Ab d1)).set (l.length*4+3) (Aa Ab d2)=wcs (l ++ [(k,t,d1,d2)]):=by
 rw [qi7,qi7,qv8,qv8,List.set_append_right _ _ (by rw [qd5];omega),qd5,Nat.add_sub_cancel_left,List.set_append_right _ _ (by rw [qd5];omega),qd5,Nat.add_sub_cancel_left];rfl
theorem LB.put_n {b B:Nat} (hb:b<B) {s:ByteArray} {l:List Wd} {k:Int} {t:List UInt8} {W:World} {g cap:Nat} (d1 d2:Int) (h1:W.heap[b]?=some (Af #[Ac s,Ad (some ⟨g,0,none⟩) (l.length+1) cap,Ae false] 90 (0,0)))
  (h2:W.ownsRow B 93 4 (Ad (some ⟨g,0,none⟩) (l.length+1) cap) (l.length+1) (wcs (l ++ [(k,t,0,0)]))) :
  LB b B s (l ++ [(k,t,d1,d2)]) false ((W.setCell ⟨g,l.length*4+2,none⟩ (Aa Ab d1)).setCell ⟨g,l.length*4+3,none⟩ (Aa Ab d2)):=by
 have hgB:=(h2.lt g rfl).1;refine⟨.slice (some ⟨g,0,none⟩) (l.length+1) cap,?_,?_⟩
 ·rw [AX _ _ _ b (by show b≠g;omega),AX _ _ _ b (by show b≠g;omega)];exact h1
 ·rw [← qo22,Ar];exact qg19 (qg19 h2 _ _) _ _
end Go.Proofs.YtocdckniokhbbaaGreatDoor.LexF
namespace Go.Proofs.YtocdckniokhbbaaGreatDoor.LexF
open Go.RowKit Go.Shelf YtocdckniokhbbaaGreatDoorW.PrintWords YtocdckniokhbbaaGreatDoorW.PrintLast YtocdckniokhbbaaGreatDoorW.PrintMore CharB SpanA FigD LexA
theorem Fr.lift {p B B':Nat} {w w':World} (h:Fr p B w w') (hB:B'≤B) (hp:p≤B'):Fr p B' w w':=⟨h.1,fun k h1 h2=>h.2 k h1 (by omega)⟩
theorem Fr.chain {p N:Nat} {w W W':World} (h:Fr p N w W) (k:Fr p W.heap.size W W') (hN:N≤W.heap.size) (hp:p≤N):Fr p N w W':=h.trans (k.lift hN hp)
theorem Fr.get {p b:Nat} {W W':World} {o:Obj} (k:Fr p W.heap.size W W') (hb:W.heap[b]?=some o) (hne:b≠p):W'.heap[b]?=some o:=by
 have hlt:=(An.1 hb).1
 rcases Nat.lt_or_gt_of_ne hne with h | h
 ·exact(k.1.block b h).trans hb
 ·exact(k.2 b h hlt).trans hb
end Go.Proofs.YtocdckniokhbbaaGreatDoor.LexF
namespace Go.Proofs.YtocdckniokhbbaaGreatDoor.Syn
open Go.RowKit Go.Shelf YtocdckniokhbbaaGreatDoorW.PrintWords YtocdckniokhbbaaGreatDoorW.PrintLast YtocdckniokhbbaaGreatDoorW.PrintMore CharB SpanA FigD LexA LexF
def Row (F:Nat→Prop) (w:World) (A:Option Addr) (xs:List Value):Prop:=∀ j u,xs[j]?=some u→ ∃ a,A=some a∧F a.block∧a.block<w.heap.size∧w.cell? (a.add j)=some u
mutual
def RepE (F:Nat→Prop) (w:World):Ex→List Value→Prop
 | .mk op s v t abs kids steps,cs=>∃ K S,cs= [Aa Ab op,Ac (ba s),Aa Ab v,Aa Ab t,Ae abs,K,S] ∧
   (∃ A cap xs,K= Ad A kids.length cap∧kids.length≤cap∧RepR F w kids xs∧Row F w A xs)∧(∃ A cap xs,S= Ad A steps.length cap∧steps.length≤cap∧RepT F w steps xs∧Row F w A xs)
def RepR (F:Nat→Prop) (w:World):List Ex→List Value→Prop
 | [],xs=>xs= []
 | e :: l,xs=>∃ cs ys,xs=cs ++ ys∧RepE F w e cs∧RepR F w l ys
def RepX (F:Nat→Prop) (w:World):St→List Value→Prop
 | .mk axis kind name has preds,cs=>∃ K,cs= [Aa Ab axis,Aa Ab kind,Ac (ba name),Ae has,K] ∧
   (∃ A cap xs,K= Ad A preds.length cap∧preds.length≤cap∧RepR F w preds xs∧Row F w A xs)
def RepT (F:Nat→Prop) (w:World):List St→List Value→Prop
 | [],xs=>xs= []
 | e :: l,xs=>∃ cs ys,xs=cs ++ ys∧RepX F w e cs∧RepT F w l ys
end
def Keeps (F:Nat→Prop) (w w':World):Prop:=w.heap.size≤w'.heap.size∧ ∀ k,F k→k<w.heap.size→w'.heap[k]?=w.heap[k]?
theorem Keeps.of_fr {F:Nat→Prop} {p B N:Nat} {w w':World} (h:Fr p B w w') (hB:w.heap.size≤B) (hF:∀ k,F k→N≤k) (hp:p<N):Keeps F w w':=⟨h.1.size,fun k h1 h2=>h.2 k (by have:=hF k h1;omega) (by omega)⟩
theorem Keeps.of_below {F:Nat→Prop} {w w':World} (h:Below w.heap.size w w'):Keeps F w w':=⟨h.size,fun k _ h2=>h.block k h2⟩
theorem Keeps.of_set {F:Nat→Prop} (w:World) {b:Nat} (j:Nat) (v:Value) (hb:¬ F b):Keeps F w (w.setCell ⟨b,j,none⟩ v):=⟨by simp [At],fun k h1 h2=>AX w ⟨b,j,none⟩ v k (fun e=>hb (by have e2:k=b:=e;rw [← e2];exact h1))⟩
theorem Keeps.of_grown {F:Nat→Prop} {w w':World} {row:Option Nat} (h:w.grownBy w' row) (hs:w.heap.size≤w'.heap.size) (hr:∀ g,row=some g→¬ F g):Keeps F w w':=⟨hs,fun k h1 h2=>h.block k h2 (fun e=>hr k e.symm h1)⟩
theorem Row.keeps {F:Nat→Prop} {w w':World} (hk:Keeps F w w') {A:Option Addr} {xs:List Value} (h:Row F w A xs):Row F w' A xs:=by
 intro j u hu;obtain⟨a,rfl,h1,h2,h3⟩:=h j u hu;refine⟨a,rfl,h1,AW h2 hk.1,?_⟩;have hb:(a.add j).block=a.block:=by unfold Addr.add;split<;>rfl
 rw [World.cell?_of_block (w:=w) (hk.2 _ (by rw [hb];exact h1) (by rw [hb];exact h2))];exact h3
theorem Row.mono {F G:Nat→Prop} {w:World} (hFG:∀ k,F k→G k) {A:Option Addr} {xs:List Value} (h:Row F w A xs):Row G w A xs:=fun j u hu=>by
 obtain⟨a,rfl,h1,h2,h3⟩:=h j u hu;exact⟨a,rfl,hFG _ h1,h2,h3⟩
mutual
theorem RepE.keeps {F:Nat→Prop} {w w':World} (hk:Keeps F w w'):∀ {e:Ex} {cs:List Value},RepE F w e cs→RepE F w' e cs
 | .mk _ _ _ _ _ kids steps,cs,h=>by
  simp only [RepE]at h ⊢;obtain⟨K,S,h1,⟨A,c,xs,h2,h3,h4,h5⟩,⟨A',c',xs',g2,g3,g4,g5⟩⟩:=h;exact⟨K,S,h1,⟨A,c,xs,h2,h3,RepR.keeps hk h4,Row.keeps hk h5⟩,⟨A',c',xs',g2,g3,RepT.keeps hk g4,Row.keeps hk g5⟩⟩
theorem RepR.keeps {F:Nat→Prop} {w w':World} (hk:Keeps F w w'):∀ {l:List Ex} {xs:List Value},RepR F w l xs→RepR F w' l xs
 | [],xs,h=>h
 | e :: l,xs,h=>by
  simp only [RepR]at h ⊢;obtain⟨cs,ys,h1,h2,h3⟩:=h;exact⟨cs,ys,h1,RepE.keeps hk h2,RepR.keeps hk h3⟩
theorem RepX.keeps {F:Nat→Prop} {w w':World} (hk:Keeps F w w'):∀ {e:St} {cs:List Value},RepX F w e cs→RepX F w' e cs
 | .mk _ _ _ _ preds,cs,h=>by
  simp only [RepX]at h ⊢;obtain⟨K,h1,A,c,xs,h2,h3,h4,h5⟩:=h;exact⟨K,h1,A,c,xs,h2,h3,RepR.keeps hk h4,Row.keeps hk h5⟩
theorem RepT.keeps {F:Nat→Prop} {w w':World} (hk:Keeps F w w'):∀ {l:List St} {xs:List Value},RepT F w l xs→RepT F w' l xs
 | [],xs,h=>h
 | e :: l,xs,h=>by
  simp only [RepT]at h ⊢;obtain⟨cs,ys,h1,h2,h3⟩:=h;exact⟨cs,ys,h1,RepX.keeps hk h2,RepT.keeps hk h3⟩
end
mutual
theorem RepE.mono {F G:Nat→Prop} {w:World} (hFG:∀ k,F k→G k):∀ {e:Ex} {cs:List Value},RepE F w e cs→RepE G w e cs
 | .mk _ _ _ _ _ kids steps,cs,h=>by
  simp only [RepE]at h ⊢;obtain⟨K,S,h1,⟨A,c,xs,h2,h3,h4,h5⟩,⟨A',c',xs',g2,g3,g4,g5⟩⟩:=h;exact⟨K,S,h1,⟨A,c,xs,h2,h3,RepR.mono hFG h4,Row.mono hFG h5⟩,⟨A',c',xs',g2,g3,RepT.mono hFG g4,Row.mono hFG g5⟩⟩
theorem RepR.mono {F G:Nat→Prop} {w:World} (hFG:∀ k,F k→G k):∀ {l:List Ex} {xs:List Value},RepR F w l xs→RepR G w l xs
 | [],xs,h=>h
 | e :: l,xs,h=>by
  simp only [RepR]at h ⊢;obtain⟨cs,ys,h1,h2,h3⟩:=h;exact⟨cs,ys,h1,RepE.mono hFG h2,RepR.mono hFG h3⟩
theorem RepX.mono {F G:Nat→Prop} {w:World} (hFG:∀ k,F k→G k):∀ {e:St} {cs:List Value},RepX F w e cs→RepX G w e cs
 | .mk _ _ _ _ preds,cs,h=>by
  simp only [RepX]at h ⊢;obtain⟨K,h1,A,c,xs,h2,h3,h4,h5⟩:=h;exact⟨K,h1,A,c,xs,h2,h3,RepR.mono hFG h4,Row.mono hFG h5⟩
theorem RepT.mono {F G:Nat→Prop} {w:World} (hFG:∀ k,F k→G k):∀ {l:List St} {xs:List Value},RepT F w l xs→RepT G w l xs
 | [],xs,h=>h
 | e :: l,xs,h=>by
  simp only [RepT]at h ⊢;obtain⟨cs,ys,h1,h2,h3⟩:=h;exact⟨cs,ys,h1,RepX.mono hFG h2,RepT.mono hFG h3⟩
end
theorem RepE.len {F:Nat→Prop} {w:World} {e:Ex} {cs:List Value} (h:RepE F w e cs):cs.length=7:=by
 cases e;simp only [RepE]at h;obtain⟨K,S,rfl,_⟩:=h;rfl
theorem RepX.len {F:Nat→Prop} {w:World} {e:St} {cs:List Value} (h:RepX F w e cs):cs.length=5:=by
 cases e;simp only [RepX]at h;obtain⟨K,rfl,_⟩:=h;rfl
theorem RepR.len {F:Nat→Prop} {w:World}:∀ {l:List Ex} {xs:List Value},RepR F w l xs→xs.length=l.length*7
 | [],xs,h=>by simp only [RepR]at h;subst h;rfl
 | e :: l,xs,h=>by
  simp only [RepR]at h;obtain⟨cs,ys,rfl,h2,h3⟩:=h;rw [Ar,h2.len,RepR.len h3,AK];omega
theorem RepR.app {F:Nat→Prop} {w:World}:∀ {l m:List Ex} {xs ys:List Value},RepR F w l xs→RepR F w m ys→RepR F w (l ++ m) (xs ++ ys)
 | [],m,xs,ys,h,k=>by simp only [RepR]at h;subst h;exact k
 | e :: l,m,xs,ys,h,k=>by
  simp only [Bf,RepR]at h ⊢;obtain⟨cs,zs,rfl,h2,h3⟩:=h;exact⟨cs,zs ++ ys,by simp,h2,RepR.app h3 k⟩
theorem RepT.app {F:Nat→Prop} {w:World}:∀ {l m:List St} {xs ys:List Value},RepT F w l xs→RepT F w m ys→RepT F w (l ++ m) (xs ++ ys)
 | [],m,xs,ys,h,k=>by simp only [RepT]at h;subst h;exact k
 | e :: l,m,xs,ys,h,k=>by
  simp only [Bf,RepT]at h ⊢;obtain⟨cs,zs,rfl,h2,h3⟩:=h;exact⟨cs,zs ++ ys,by simp,h2,RepT.app h3 k⟩
theorem RepR.one {F:Nat→Prop} {w:World} {e:Ex} {cs:List Value} (h:RepE F w e cs):RepR F w [e] cs:=by
 simp only [RepR];exact⟨cs,[],by simp,h,rfl⟩
theorem RepT.one {F:Nat→Prop} {w:World} {e:St} {cs:List Value} (h:RepX F w e cs):RepT F w [e] cs:=by
 simp only [RepT];exact⟨cs,[],by simp,h,rfl⟩
theorem Row.nil (F:Nat→Prop) (w:World) (A:Option Addr):Row F w A []:=fun j u h=>by simp at h
theorem Row.own {F:Nat→Prop} {B n cap m:Nat} {w:World} {A:Option Addr} {xs:List Value} {t:TypeId} (hF:∀ g,(Value.slice A n cap).ownBlock=some g→F g) (h:w.ownsRow B t m (Ad A n cap) n xs):Row F w A xs:=by
 intro j u hu
 rcases h.2 with ⟨h1,h2⟩ | ⟨g,c,cur,hv,hg,_⟩
 ·have:=h.1;subst h2;rw [Nat.zero_mul]at this;rw [List.eq_nil_of_length_eq_zero this]at hu;simp at hu
 ·cases hv
  have hlt:=h.lt g rfl;exact⟨_,rfl,hF g rfl,hlt.2,h.cells (g:=g) rfl j u hu⟩
theorem qm8 {w:World} {B n:Nat} {A:Option Addr} {cap:Nat} {xs:List Value} {t:TypeId} {m:Nat} (h:w.ownsRow B t m (Ad A n cap) n xs):n≤cap:=by
 rcases h.2 with ⟨h1,h2⟩ | ⟨g,c,cur,hv,_,_,hc,_⟩
 ·omega
 ·cases hv;exact hc
def isE (N:Nat) (w:World) (e:Ex) (v:Value):Prop:=∃ F cs,v= .agg cs.toArray∧RepE F w e cs∧ ∀ k,F k→N≤k∧k<w.heap.size
def isX (N:Nat) (w:World) (e:St) (v:Value):Prop:=∃ F cs,v= .agg cs.toArray∧RepX F w e cs∧ ∀ k,F k→N≤k∧k<w.heap.size
def qi20 (N:Nat) (w:World) (l:List Ex) (v:Value):Prop:=∃ F A cap xs,v= Ad A l.length cap∧l.length≤cap∧RepR F w l xs∧Row F w A xs∧ ∀ k,F k→N≤k∧k<w.heap.size
def isSs (N:Nat) (w:World) (l:List St) (v:Value):Prop:=∃ F A cap xs,v= Ad A l.length cap∧l.length≤cap∧RepT F w l xs∧Row F w A xs∧ ∀ k,F k→N≤k∧k<w.heap.size
theorem isE.open {N:Nat} {w:World} {e:Ex} {v:Value} (h:isE N w e v):∃ F op s d1 d2 b A1 n1 c1 A2 n2 c2,v= .agg #[Aa Ab op,Ac s,Aa Ab d1,Aa Ab d2,Ae b,Ad A1 n1 c1,Ad A2 n2 c2] ∧
  RepE F w e [Aa Ab op,Ac s,Aa Ab d1,Aa Ab d2,Ae b,Ad A1 n1 c1,Ad A2 n2 c2]∧ ∀ k,F k→N≤k∧k<w.heap.size:=by
 obtain⟨F,cs,rfl,hr,hF⟩:=h
 cases e
 simp only [RepE]at hr;obtain⟨K,S,rfl,⟨A,c,xs,rfl,h3⟩,⟨A',c',xs',rfl,g3⟩⟩:=hr;exact⟨F,_,_,_,_,_,_,_,_,_,_,_,rfl,by simp only [RepE];exact⟨_,_,rfl,⟨A,c,xs,rfl,h3⟩,⟨A',c',xs',rfl,g3⟩⟩,hF⟩
theorem isX.open {N:Nat} {w:World} {e:St} {v:Value} (h:isX N w e v):∃ F a k s b A1 n1 c1,v= .agg #[Aa Ab a,Aa Ab k,Ac s,Ae b,Ad A1 n1 c1] ∧
  RepX F w e [Aa Ab a,Aa Ab k,Ac s,Ae b,Ad A1 n1 c1]∧ ∀ k,F k→N≤k∧k<w.heap.size:=by
 obtain⟨F,cs,rfl,hr,hF⟩:=h
 cases e
 simp only [RepX]at hr;obtain⟨K,rfl,A,c,xs,rfl,h3⟩:=hr;exact⟨F,_,_,_,_,_,_,_,rfl,by simp only [RepX];exact⟨_,rfl,A,c,xs,rfl,h3⟩,hF⟩
end Go.Proofs.YtocdckniokhbbaaGreatDoor.Syn
