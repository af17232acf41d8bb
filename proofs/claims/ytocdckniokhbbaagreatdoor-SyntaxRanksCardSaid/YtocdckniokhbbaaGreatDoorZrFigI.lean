import Derived.Test.YtocdckniokhbbaaGreatDoorZrZz
import Derived.Test.YtocdckniokhbbaaGreatDoorZrFigG
import Derived.Lib.ConvBytes
set_option linter.unusedVariables false
set_option linter.unusedSimpArgs false
open Go.Value renaming int→Aa,string→Ac,bool→Ae,slice→Ad
open Go.IntKind renaming i64→Ab
open Go.Proofs.Tryz renaming prog→Am,underlying24→AF
open Go.Obj renaming cells→Af
open Nat renaming le_refl→Ag,lt_of_lt_of_le→AV,le_of_lt→Ah
open Go.RowKit.Below renaming refl→Ao,heap_setCell→AS
open Go.Lib renaming size_eq→A8
open List renaming dropWhile_sublist→Bn,length_append→Aq,drop_eq_getElem_cons→AQ
open And renaming intro→AZ
set_option maxHeartbeats 1600000
set_option maxRecDepth 100000
namespace Go.Proofs.YtocdckniokhbbaaGreatDoor.FigH
open Go.RowKit Go.Shelf YtocdckniokhbbaaGreatDoorW.PrintWords YtocdckniokhbbaaGreatDoorW.PrintLast YtocdckniokhbbaaGreatDoorW.PrintMore CharB CharD CharF SpanA DecA DecE DecF DecG FigA FigB FigC FigD FigE FigF FigG
theorem qd25 (d e:Int × Int) (hd:I64 d.2) (he:I64 e.2) (w:World):Calls Am 128 #[.agg #[Aa Ab d.1,Aa Ab d.2],.agg #[Aa Ab e.1,Aa Ab e.2]] w fun z w'=>z= .returned (.agg #[Aa Ab (qd17 (nrm d) (nrm e)).1,Aa Ab (qd17 (nrm d) (nrm e)).2])∧Below w.heap.size w w':=PF.dec_Mul.calls 41 _ _ _ _ _ _ w (qn22 (by omega) hd he)
theorem qx26 (d e:Int × Int) (hd:I64 d.2) (he:I64 e.2) (w:World):Calls Am 127 #[.agg #[Aa Ab d.1,Aa Ab d.2],.agg #[Aa Ab e.1,Aa Ab e.2]] w fun z w'=>z= .returned (.agg #[Aa Ab (qd19 (nrm d) (nrm e)).1,Aa Ab (qd19 (nrm d) (nrm e)).2])∧Below w.heap.size w w':=PF.dec_Add.calls 41 _ _ _ _ _ _ w (qp22 (by omega) hd he)
theorem qr23 (w:World):Calls Am 125 #[Aa Ab 10] w fun z w'=>z= .returned (.agg #[Aa Ab 0,Aa Ab 10000000])∧Below w.heap.size w w':=PF.dec_Int.calls 41 10 0 10000000 w (by rw [qo22 (by omega) (by unfold I64;omega)];decide)
theorem nm_i64 {a:Int × Int} (h:Nm a):I64 a.2:=by unfold Nm at h;unfold I64;omega
theorem qa25 (s:Int):Nm (qy21 s):=by unfold qy21 Nm;split;simp;split<;>simp
theorem nm_addN (s:Int):Nm (qe19 s):=by unfold qe19 Nm;split;simp;split;simp;simp;omega
theorem nrm_Nm {a:Int × Int} (h:Nm a):Nm (nrm a):=by rw [qx15 h];exact h
theorem qz14 (v:Int):0≤ab v:=by unfold ab;split<;>omega
theorem nm_mul {a b:Int × Int} (ha:Nm a) (hb:Nm b):Nm (qd17 (nrm a) (nrm b)):=by
 unfold qd17
 split
 ·right;simp
 ·split
  ·exact qa25 _
  ·exact nm_mk _ _ (Int.ediv_nonneg (Int.mul_nonneg (qz14 _) (qz14 _)) (by omega))
theorem nm_add {a b:Int × Int} (ha:Nm a) (hb:Nm b):Nm (qd19 a b):=by
 unfold qd19
 repeat' split
 all_goals first | exact nm_addN _ | assumption | (right;simp)
theorem qd7 (s:List UInt8):litP s=if(qo2 s).2.2=true then some ((qo2 s).1,(qo2 s).2.1)else none:=by
 unfold litP qo2;simp only;generalize s.takeWhile qr1=a
 cases hr:s.dropWhile qr1 with
 | nil=>cases a<;>simp
 | cons c r=>
  simp only [List.head?_cons,List.tail_cons];rw [if_neg (by simp)];by_cases hc:c=46
  ·subst hc;simp only [if_true];by_cases ha:r.all qr1=true
   ·have h1:r.takeWhile qr1=r:=by have:=(qq4 r [] ha (by simp)).1;simpa using this
    have h2:r.dropWhile qr1= []:=by have:=(qq4 r [] ha (by simp)).2;simpa using this
    rw [h1,h2]
    cases a<;>cases r<;>simp_all
   ·have h2:r.dropWhile qr1≠ []:=by
     intro e;apply ha;have:=List.takeWhile_append_dropWhile (p:=qr1) (l:=r);rw [e,List.append_nil]at this;rw [← this];exact List.all_takeWhile
    have h3:(r.dropWhile qr1).isEmpty=false:=by cases hq:r.dropWhile qr1 with | nil=>exact absurd hq h2 | cons d t=>rfl
    have ha':r.all qr1=false:=by simpa using ha
    simp [h3,ha']
  ·simp [hc]
theorem qn25 (s:ByteArray) (w:World) (hs:s.size≤1000000000) (h:(qo2 s.data.toList).2.2=false) :
  Calls Am 90 #[Ac s] w fun e w'=>e= .returned (.tuple #[.agg #[Aa Ab 0,Aa Ab 0],Ae false])∧Below w.heap.size w w':=by
 have cp:=fun W=>qn11 s W hs;rw [h]at cp;clear h;generalize (qo2 s.data.toList).1=a at *;generalize (qo2 s.data.toList).2.1=b at *;have hB:=Aside0.mk ((Ao w.heap.size w).alloc (Ag _) (Af #[Aa Ab 0,Aa Ab 0] 24));have hX:=Aside0.mk (qw3 0 0 w);go_enter Tryz.func90,Tryz.ntmps90;go_wp2_with fail
 refine(cp _).mono ?_;rintro e w1 ⟨rfl,b1⟩;have B1:=Aside0.mk (hB.out.trans (b1.mono (by simp)));have X1:=hX.out.below b1;have HX1:=Aside0.mk X1;have g0:=X1.c0;have g1:=X1.c1;have f0:=X1.fr 0;have f1:=X1.fr 1;clear b1 X1;go_wp2_with fail
 refine bodyPost_ret (qr4 rfl _ _ w.heap.size 24 #[Aa Ab 0,Aa Ab 0] (0,0) _ rfl (HX1.out.put) AF rfl zr) rfl ?_;exact⟨rfl,(B1.out.setCell (p:=⟨w.heap.size,0,none⟩) (Ag _) _).setCell (p:=⟨w.heap.size,1,none⟩) (Ag _) _⟩
def Row8 (b:Nat) (l:List UInt8) (W:World):Prop:=b<W.heap.size∧ ∀ j (h:j<l.length),W.cell? ⟨b,j,none⟩=some (.int .u8 (l[j].toNat:Int))
theorem Row8.below {b:Nat} {l:List UInt8} {W W':World} (h:Row8 b l W) (hb:Below W.heap.size W W'):Row8 b l W':=
 ⟨AV h.1 hb.size,fun j hj=>(hb.cell (p:=⟨b,j,none⟩) h.1).trans (h.2 j hj)⟩
theorem cell_ne {W:World} {p q:Addr} (v:Value) (h:p.block≠q.block):(W.setCell p v).cell? q=W.cell? q:=by
 unfold World.cell?;rw [AS W p v q.block (fun e=>h e.symm)]
theorem Row8.put {b:Nat} {l:List UInt8} {W:World} (h:Row8 b l W) (c i:Nat) (v:Value) (hne:c≠b):Row8 b l (W.setCell ⟨c,i,none⟩ v):=
 ⟨by simpa using h.1,fun j hj=>(cell_ne v hne).trans (h.2 j hj)⟩
theorem qk7 {b:Nat} {t v:Int} {W:World} (h:Box b t v W) (c i:Nat) (u:Value) (hne:c≠b):Box b t v (W.setCell ⟨c,i,none⟩ u):=by
 unfold Box at h ⊢;rw [AS _ _ _ b (fun e=>hne (by simpa using e.symm))];exact h
structure LS (a d t b:Nat) (l:List UInt8) (n:Int × Int) (w0 W:World):Prop where
 res:Box a 0 0 W
 num:Box d n.1 n.2 W
 ten:Box t 0 10000000 W
 row:Row8 b l W
 bel:Below a w0 W
theorem LS.below {a d t b:Nat} {l:List UInt8} {n:Int × Int} {w0 W W':World} (h:LS a d t b l n w0 W) (hb:Below W.heap.size W W'):LS a d t b l n w0 W':=
 ⟨h.res.below hb,h.num.below hb,h.ten.below hb,h.row.below hb,h.bel.trans (hb.mono (Ah h.res.lt))⟩
theorem LS.put {a d t b:Nat} {l:List UInt8} {n m:Int × Int} {w0 W:World} (h:LS a d t b l n w0 W) (h1:d≠a) (h2:d≠t) (h3:d≠b) (h4:a≤d):LS a d t b l m w0 ((W.setCell ⟨d,0,none⟩ (Aa Ab m.1)).setCell ⟨d,1,none⟩ (Aa Ab m.2)):=
 ⟨qk7 (qk7 h.res _ _ _ h1) _ _ _ h1,h.num.put,qk7 (qk7 h.ten _ _ _ h2) _ _ _ h2,(h.row.put _ _ _ h3).put _ _ _ h3,(h.bel.setCell (p:=⟨d,0,none⟩) h4 _).setCell (p:=⟨d,1,none⟩) h4 _⟩
theorem conv_in (s:ByteArray) (W:World):(convert 9 160 (Ac s)).run Am W= .ok (Ad (some ⟨W.heap.size,0,none⟩) s.size (grownCap W s.size 0 5)) (Lib.bytesWorld W 5 s):=Lib.run_convert_string_bytes W _ _ _ s (u:= .string) zr zr zr
theorem qm26 (l:List UInt8) (W:World):Row8 W.heap.size l (Lib.bytesWorld W 5 (ba l)):=
 ⟨by rw [Lib.bytesWorld_size];omega,fun j hj=>by rw [Lib.bytesWorld_cell W _ _ j (by rw [qj1];exact hj),qa1,getD_at _ _ hj]⟩
theorem qu18 (s:ByteArray) (W:World):Below W.heap.size W (Lib.bytesWorld W 5 s):=by
 unfold Lib.bytesWorld;exact Lib.below_freeze ((Below.drew (Ao W.heap.size W)).alloc (Ag _) _) (p:=⟨W.heap.size,_,none⟩) (Ag _) _
theorem rep6:(⟨(Lib.repeatL (⟨#[48]⟩:ByteArray).data.toList 6).toArray⟩:ByteArray)=ba [48,48,48,48,48,48]:=by decide +kernel
theorem qg24 (w:World):Calls Am 124 #[Ac ⟨#[48]⟩,Aa Ab 6] w fun e w'=>e= .returned (Ac (ba [48,48,48,48,48,48]))∧Below w.heap.size w w':=by
 have:=Tryz.strings_Repeat ⟨#[48]⟩ 6 w (by omega) (by show 1*6≤_;omega);rw [rep6]at this;exact this
theorem qs17 (a:List UInt8) (w:World):Calls Am 126 #[Ac (ba a),Ac ⟨#[48]⟩] w fun e w'=>e= .returned (Ac (ba (a.dropWhile (· == 48))))∧w'=w:=Tryz.strings_TrimLeft_one (ba a) 48 (by decide) w
theorem six_cut (b:List UInt8):(ba b ++ ba [48,48,48,48,48,48]).extract 0 6=ba (qs16 b):=qb2 (by rw [qk1,qx22,qa1,qa1];rfl)
theorem qm25 (s:ByteArray) (w:World) (hs:s.size≤1000000000) (h:(qo2 s.data.toList).2.2=true) :
  Calls Am 90 #[Ac s] w fun e w'=>e= .returned (.tuple #[.agg #[Aa Ab (qf8 s.data.toList).1.1,Aa Ab (qf8 s.data.toList).1.2],Ae true])∧Below w.heap.size w w':=by
 have cp:=fun W=>qn11 s W hs;rw [h]at cp;have hl:qf8 s.data.toList=(mk false (qg13 ((qo2 s.data.toList).1 ++ qs16 (qo2 s.data.toList).2.1)),true):=by unfold qf8;rw [qd7,h];rfl
 have hp:litP s.data.toList=some ((qo2 s.data.toList).1,(qo2 s.data.toList).2.1):=by rw [qd7,h];rfl
 have hall:=qe17 hp
 have ha1:(qo2 s.data.toList).1.length≤1000000000:=by
  have:(qo2 s.data.toList).1.length≤s.data.toList.length:=(List.takeWhile_sublist _).length_le;rw [← A8]at this;omega
 have hb1:(qo2 s.data.toList).2.1.length≤1000000000:=by
  have h1:(s.data.toList.dropWhile qr1).length≤s.data.toList.length:=(Bn _).length_le
  have h2:(qo2 s.data.toList).2.1.length≤(s.data.toList.dropWhile qr1).length:=by
   unfold qo2;simp only
   split
   ·have:=(List.takeWhile_sublist (l:=(s.data.toList.dropWhile qr1).tail) qr1).length_le;rw [List.length_tail]at this;omega
   ·simp
  rw [← A8]at h1;omega
 rw [hl,← qc26 _ _ hall.1 hall.2];clear h hl hp hs;generalize (qo2 s.data.toList).1=a at *;generalize (qo2 s.data.toList).2.1=b at *;have ha2:(a.dropWhile (· == 48)).length≤a.length:=(Bn _).length_le;have hdig:(a.dropWhile (· == 48) ++ qs16 b).all qr1=true:=by rw [List.all_append,ql13 a hall.1,qq15 b hall.2];rfl
 have hb6:(qs16 b).length≤6:=by unfold qs16;rw [List.length_take];omega
 have ct:=fun W=>qs17 a W;have hcat:ba (a.dropWhile (· == 48)) ++ ba (qs16 b)=ba (a.dropWhile (· == 48) ++ qs16 b):=qx22 _ _;generalize hL:a.dropWhile (· == 48) ++ qs16 b=L at *;have hLl:L.length≤1000000006:=by rw [← hL,Aq];omega
 have hB:=Aside0.mk ((Ao w.heap.size w).alloc (Ag _) (Af #[Aa Ab 0,Aa Ab 0] 24));have hX:=Aside0.mk (qw3 0 0 w);have s1:(ba b).size≤1000000000:=by rw [qj1];exact hb1
 have s2:(ba [48,48,48,48,48,48]).size≤6:=Ag _;have s5:6≤(ba [48,48,48,48,48,48]).size:=Ag _;have s3:(ba (a.dropWhile (· == 48))).size≤1000000000:=by rw [qj1];omega
 have s4:(ba (qs16 b)).size≤6:=by rw [qj1];exact hb6
 have hcut:=six_cut b;obtain⟨R,hR⟩:∃ R,L.foldl qu10 (0,0)=R:=⟨_,rfl⟩;rw [hR];have HR:=Aside0.mk hR;have HD:=Aside0.mk hdig;have HC:=Aside0.mk (AZ hcat hL);clear hR hdig hcat hL hall ha1 hb1 ha2 hb6;generalize a.dropWhile (· == 48)=a' at *;go_enter Tryz.func90,Tryz.ntmps90;go_wp2_with fail
 refine(cp _).mono ?_;rintro e w1 ⟨rfl,b1⟩;have B1:=Aside0.mk (hB.out.trans (b1.mono (by simp)));have X1:=Aside0.mk (hX.out.below b1);clear b1 cp hB hX;go_wp2_with fail
 refine(qg24 _).mono ?_;rintro e w2 ⟨rfl,b2⟩;have B2:=Aside0.mk (chain B1.out (Ag _) b2);have X2:=Aside0.mk (X1.out.below b2);clear b2 B1 X1;go_wp2_with fail
 refine(qr23 _).mono ?_;rintro e w3 ⟨rfl,b3⟩;have Y3:=(qw3 0 0 w2).below b3;have Z2:=(X2.out.below ((Ao w2.heap.size w2).alloc (Ag _) (Af #[Aa Ab 0,Aa Ab 0] 24))).below b3;have B3:=chain (B2.out.alloc B2.out.size (Af #[Aa Ab 0,Aa Ab 0] 24)) (Ag _) b3;have g1:=X2.out.lt;have g2:=Y3.lt;have al:=(Ao w3.heap.size w3).alloc (Ag _) (Af #[Aa Ab 0,Aa Ab 10000000] 24);obtain⟨W3,hW3⟩:∃ W3,W3=w3.alloc (Af #[Aa Ab 0,Aa Ab 10000000] 24):=⟨_,rfl⟩;have hsz:W3.heap.size=w3.heap.size+1:=by rw [hW3];simp
 have cb:=qu18 (ba L) W3;have hrow:=qm26 L W3;rw [hsz]at hrow;have hten:Box w3.heap.size 0 10000000 W3:=by rw [hW3];exact qw3 0 10000000 w3
 rw [← hW3]at al
 have hLS:LS w.heap.size w2.heap.size w3.heap.size (w3.heap.size+1) L (0,0) w (Lib.bytesWorld W3 5 (ba L)):=
  ⟨(Z2.below al).below cb,(Y3.below al).below cb,hten.below cb,hrow,chain (chain B3 (Ag _) al) (Ag _) cb⟩
 have hcv:=conv_in (ba L) W3;rw [hW3]at hcv hLS;have HS:=Aside0.mk hLS;have hcat:=HC.out.1;clear hLS hrow hten cb al Z2 Y3 B3 b3 hW3 hsz W3 HC B2 X2;go_wp2_with fail
 refine(ct _).mono ?_;rintro e w4 ⟨rfl,rfl⟩;clear ct;go_wp2_with fail
 obtain⟨cap,hcap⟩:∃ cap,grownCap (w3.alloc (Af #[Aa Ab 0,Aa Ab 10000000] 24)) (ba L).size 0 5=cap:=⟨_,rfl⟩;have hsz1:(ba L).size≤L.length:=by rw [qj1];exact Ag _
 have hsz2:L.length≤(ba L).size:=by rw [qj1];exact Ag _
 rw [hcap];clear hcap hcv hcat hcut s1 s2 s3 s4 s5;have g12:w2.heap.size≠w.heap.size∧w2.heap.size≠w3.heap.size∧w2.heap.size≠w3.heap.size+1∧w.heap.size≤w2.heap.size:=by omega
 have G:=Aside0.mk g12;clear g12;go_loopg [32] L.length (fun kq v32 w'=>∃ (i:Nat) (n:Int × Int),v32= Aa Ab (i:Int)∧Aside0 (LS w.heap.size w2.heap.size w3.heap.size (w3.heap.size+1) L n w w')∧Aside0 ((L.drop i).foldl qu10 n=R)∧Aside0 (Nm n)∧Aside0 (i+kq=L.length))
 case atStart=>exact⟨0,(0,0),rfl,HS,⟨by rw [List.drop_zero];exact HR.out⟩,⟨.inl ⟨rfl,by omega,by omega⟩⟩,⟨by omega⟩⟩
 case round=>
  obtain⟨i,n,rfl,HS1,HR1,HN,HK⟩:=hrel;have hK:=HK.out;clear HS HR;by_cases hi:i<L.length
  ·have hR:=HR1.out;rw [AQ hi,List.foldl_cons]at hR;have hdg:=List.all_eq_true.1 HD.out L[i] (List.getElem_mem hi);rw [qo3]at hdg;have hS1:=HS1.out;have hcell:=hS1.row.2 i hi;have n0:=hS1.num.c0;have n1:=hS1.num.c1;have t0:=hS1.ten.c0;have t1:=hS1.ten.c1;have hN:=HN.out;have hm:=qd25 n (0,10000000) (nm_i64 hN) (by unfold I64;omega) wr;have hmn:Nm (qd17 (nrm n) (nrm (0,10000000))):=nm_mul hN (.inl ⟨rfl,by omega,by omega⟩);obtain⟨k1,rfl⟩:∃ k1,gk=k1+1:=⟨gk - 1,by omega⟩;generalize hc:L[i]=c at *;have ha:=fun W=>qx26 (qd17 (nrm n) (nrm (0,10000000))) (0,(c.toNat:Int) - 48) (nm_i64 hmn) (by unfold I64;simp only;omega) W;have hstep:qu10 n c=qd19 (nrm (qd17 (nrm n) (nrm (0,10000000)))) (nrm (0,(c.toNat:Int) - 48)):=rfl;rw [← hstep]at ha;have hsn:Nm (qu10 n c):=nm_add (nrm_Nm hmn) (nrm_Nm (.inl ⟨rfl,by simp only;omega,by simp only;omega⟩));generalize qu10 n c=n2 at *;generalize qd17 (nrm n) (nrm (0,10000000))=m at *;have HR2:=Aside0.mk hR;have HN2:=Aside0.mk hsn;obtain⟨dg1,dg2⟩:=hdg;clear hR hstep hsn hmn hN hc HR1 HN;go_wp2_with fail
   refine hm.mono ?_;rintro e w5 ⟨rfl,b5⟩;have hS2:=hS1.below b5;clear hS1 HS1 b5;go_wp2_with fail
   refine(ha _).mono ?_;rintro e w6 ⟨rfl,b6⟩;have hS3:=hS2.below b6;have HS4:=Aside0.mk (hS3.put (m:=n2) G.out.1 G.out.2.1 G.out.2.2.1 G.out.2.2.2);have q0:=hS3.num.c0;have q1:=hS3.num.c1;have z0:=hS3.num.fr 0;have z1:=hS3.num.fr 1;clear hS2 hS3 b6;go_wp2_with fail
   go_roundg k1
   case measure=>omega
   case rel=>exact⟨i+1,n2,by go_num,HS4,HR2,HN2,⟨by omega⟩⟩
  ·have hR:=HR1.out;rw [List.drop_eq_nil_of_le (by omega)]at hR;have hn:n=R:=hR;subst hn;have hS1:=HS1.out;have n0:=hS1.num.c0;have n1:=hS1.num.c1;have r0:=hS1.res.c0;have r1:=hS1.res.c1;have z0:=hS1.res.fr 0;have z1:=hS1.res.fr 1;clear hS1 hR HR1;go_wp2_with fail
   refine bodyPost_ret (qr4 rfl _ _ w.heap.size 24 #[Aa Ab n.1,Aa Ab n.2] (0,0) _ rfl (HS1.out.res.put) AF rfl zr) rfl ?_;exact⟨rfl,(HS1.out.bel.setCell (p:=⟨w.heap.size,0,none⟩) (Ag _) _).setCell (p:=⟨w.heap.size,1,none⟩) (Ag _) _⟩
theorem qb9 (s:ByteArray) (w:World) (hs:s.size≤1000000000) :
  Calls Am 90 #[Ac s] w fun e w'=>e= .returned (.tuple #[.agg #[Aa Ab (qf8 s.data.toList).1.1,Aa Ab (qf8 s.data.toList).1.2],Ae (qf8 s.data.toList).2])∧Below w.heap.size w w':=by
 cases h:(qo2 s.data.toList).2.2 with
 | false=>
  have e:qf8 s.data.toList=((0,0),false):=by unfold qf8;rw [qd7,h];rfl
  rw [e];exact qn25 s w hs h
 | true=>
  have e:(qf8 s.data.toList).2=true:=by unfold qf8;rw [qd7,h];rfl
  rw [e];exact qm25 s w hs h
end Go.Proofs.YtocdckniokhbbaaGreatDoor.FigH
namespace Go.Proofs.YtocdckniokhbbaaGreatDoor.FigI
open Go.RowKit Go.Shelf YtocdckniokhbbaaGreatDoorW.PrintWords YtocdckniokhbbaaGreatDoorW.PrintLast YtocdckniokhbbaaGreatDoorW.PrintMore CharB CharD CharF SpanA DecA DecE DecF DecG FigA FigB FigC FigD FigE FigF FigG FigH
abbrev ql7 (w:World):Prop:=Lib.Utf8Tabs 0 1 w
theorem qz1 {w w':World} (hT:ql7 w) (h:Below w.heap.size w w'):ql7 w':=Utf8Tabs_below hT h
theorem qo15 (w:World):PredAtRunes Am 44 #[] sp w:=fun W x _ _=>by
 refine(qp15 (x:Int) W).mono ?_;rintro e w' ⟨rfl,m,rfl⟩;exact⟨rfl,m,rfl⟩
end Go.Proofs.YtocdckniokhbbaaGreatDoor.FigI
