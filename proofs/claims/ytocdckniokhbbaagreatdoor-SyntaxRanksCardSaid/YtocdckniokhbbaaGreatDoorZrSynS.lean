import Derived.Test.YtocdckniokhbbaaGreatDoorZrZz
import Derived.Test.YtocdckniokhbbaaGreatDoorZrFc
import Derived.Test.YtocdckniokhbbaaGreatDoorZrSamB
import Derived.Test.YtocdckniokhbbaaGreatDoorZrSynN
set_option linter.unusedVariables false
set_option linter.unusedSimpArgs false
open Go.Value renaming int→Aa,string→Ac,slice→Ad,bool→Ae
open Go.IntKind renaming i64→Ab
open Go.Proofs.Tryz renaming prog→Am
open Go.RowKit.Below renaming refl→Ao,heap_setCell→AS
open List renaming getElem?_eq_getElem→AH,mem_of_getElem?→Bd
open Go.Obj renaming cells→Af
open Nat renaming le_refl→Ag,lt_of_lt_of_le→AV,le_of_lt→Ah
open Go.World renaming cell?_alloc_lt→AA,setCell→Ar,cell?_setCell_far→B9
open Array renaming getElem?_eq_some_iff→An
open Go.ByteArray renaming toList_eq→AB
open Go.Lib renaming frozen_of_heap→Bb,cell_of_heap→Ai
set_option maxHeartbeats 8000000
set_option maxRecDepth 100000
namespace Go.Proofs.YtocdckniokhbbaaGreatDoor.Syn
open Go.RowKit Go.Shelf YtocdckniokhbbaaGreatDoorW.PrintWords YtocdckniokhbbaaGreatDoorW.PrintLast YtocdckniokhbbaaGreatDoorW.PrintMore CharB SpanA FigD LexA LexF
def qm16 (E:Ex):Prop:=∀ (E2:Ex) (w:World) (F G:Nat→Prop) (op':Int) (s':ByteArray) (d' t':Int) (b':Bool) (A1':Option Addr) (n1' c1':Nat) (A2':Option Addr) (n2' c2':Nat) (op_:Int) (s_:ByteArray) (d_ t_:Int) (b_:Bool) (A1_:Option Addr) (n1_ c1_:Nat) (A2_:Option Addr) (n2_ c2_:Nat),RepE F w E [Aa Ab op',Ac s',Aa Ab d',Aa Ab t',Ae b',Ad A1' n1' c1',Ad A2' n2' c2']→RepE G w E2 [Aa Ab op_,Ac s_,Aa Ab d_,Aa Ab t_,Ae b_,Ad A1_ n1_ c1_,Ad A2_ n2_ c2_]→wfE E→wfE E2→Calls Am 16 #[.agg #[Aa Ab op',Ac s',Aa Ab d',Aa Ab t',Ae b',Ad A1' n1' c1',Ad A2' n2' c2'],.agg #[Aa Ab op_,Ac s_,Aa Ab d_,Aa Ab t_,Ae b_,Ad A1_ n1_ c1_,Ad A2_ n2_ c2_]] w (qa11 w (qx1 E E2))
def SameT (E:St):Prop:=∀ (E2:St) (w:World) (F G:Nat→Prop) (a' k':Int) (s':ByteArray) (b':Bool) (A1':Option Addr) (n1' c1':Nat) (a_ k_:Int) (s_:ByteArray) (b_:Bool) (A1_:Option Addr) (n1_ c1_:Nat),RepX F w E [Aa Ab a',Aa Ab k',Ac s',Ae b',Ad A1' n1' c1']→RepX G w E2 [Aa Ab a_,Aa Ab k_,Ac s_,Ae b_,Ad A1_ n1_ c1_]→wfX E→wfX E2→Calls Am 34 #[.agg #[Aa Ab a',Aa Ab k',Ac s',Ae b',Ad A1' n1' c1'],.agg #[Aa Ab a_,Aa Ab k_,Ac s_,Ae b_,Ad A1_ n1_ c1_]] w (qa11 w (qc3 E E2))
theorem qh20:∀ {a b:List St},qd3 a b=true→a.length=b.length:=fun h=>congrArg List.length (qg12 h)
theorem qv16 {l m:List St} (h:¬ l.length=m.length):qd3 l m=false:=by
 cases hq:qd3 l m with
 | false=>rfl
 | true=>exact absurd (qh20 hq) h
theorem eq_E (l:List Ex) (hl:∀ x ∈ l,qm16 x) (m:List Ex) (w:World) (F G:Nat→Prop) (A:Option Addr) (c:Nat) (A':Option Addr) (c':Nat) (xs ys:List Value) (hR:RepR F w l xs) (hW:Row F w A xs) (hR2:RepR G w m ys) (hW2:Row G w A' ys) (hwl:wfL l) (hwm:wfL m) (hlen:l.length≤maxLen) (hlen2:m.length≤maxLen) :
  Calls Am 35 #[Ad A l.length c,Ad A' m.length c',.func (.func 16) #[] #[]] w (qa11 w (qq1 l m)):=by
 by_cases hlm:l.length=m.length
 ·have HLm:=Aside0.mk hlm;obtain⟨R,hR0⟩:∃ R,qq1 l m=R:=⟨_,rfl⟩;rw [hR0];have HQs:Aside0 (qq1 (l.drop 0) (m.drop 0)=R):=⟨zbp⟩;have HL:=Aside0.mk hl;have HR:=Aside0.mk hR;have HW:=Aside0.mk hW;have HR2:=Aside0.mk hR2;have HW2:=Aside0.mk hW2;have HWl:=Aside0.mk hwl;have HWm:=Aside0.mk hwm;have HLen:=Aside0.mk (show l.length≤9223372036854775807 by unfold maxLen at hlen;omega);have HB0:=Aside0.mk (Ao w.heap.size w);have hne:((l.length:Int) !=(m.length:Int))=false:=by simp;omega
  have hne2:(l.length !=m.length)=false:=by simp;omega
  clear hlm hR0 hl hR hW hR2 hW2 hwl hwm hlen hlen2;go_enter Tryz.func35,Tryz.ntmps35;go_wp2_with fail
  go_loopg [17] l.length (fun kq v17 w'=>∃ i:Nat,v17= Aa Ab (i:Int)∧Aside0 (kq+i=l.length)∧Aside0 (Below w.heap.size w w')∧Aside0 (qq1 (l.drop i) (m.drop i)=R))
  case atStart=>exact⟨0,rfl,⟨rfl⟩,HB0,HQs⟩
  case round=>
   obtain⟨i,rfl,HI,HBr,HQ⟩:=hrel;clear HQs;by_cases hi:i<l.length
   ·obtain⟨x,hix⟩:∃ x,l[i]?=some x:=⟨_,AH hi⟩;obtain⟨y,hiy⟩:∃ y,m[i]?=some y:=⟨_,AH (by have:=HLm.out;omega)⟩;obtain⟨ax,opx,sx,dx,tx,bx,A1x,n1x,c1x,A2x,n2x,c2x,rfl,hFa,hba,hRx,x0,x1,x2,x3,x4,x5,x6⟩:=Row.exp (HR.out.keeps (Keeps.of_below HBr.out)) (HW.out.keeps (Keeps.of_below HBr.out)) i x hix;obtain⟨az,opz,sz,dz,tz,bz,A1z,n1z,c1z,A2z,n2z,c2z,rfl,hFa2,hba2,hRy,y0,y1,y2,y3,y4,y5,y6⟩:=Row.exp (HR2.out.keeps (Keeps.of_below HBr.out)) (HW2.out.keeps (Keeps.of_below HBr.out)) i y hiy;have hmx:x ∈ l:=Bd hix;have hmy:y ∈ m:=Bd hiy;have hlt:decide ((i:Int)<(l.length:Int))=true:=by simp;omega
    have h0i:(0:Int)≤(i:Int):=by omega
    have hil:(i:Int)<(l.length:Int):=by omega
    have him:(i:Int)<(m.length:Int):=by have:=HLm.out;omega
    have hw1:wrap64 ((i:Int)+1)=((i+1:Nat):Int):=by have:=HLen.out;unfold wrap64;omega
    have hQ:=HQ.out;rw [qp9 hi hix hiy]at hQ;have HC:=Aside0.mk (fun (W:World) (hk:∀ {F:Nat→Prop},Keeps F wr W)=>HL.out x hmx y W F G _ _ _ _ _ _ _ _ _ _ _ _ _ _ _ _ _ _ _ _ _ _ (hRx.keeps hk) (hRy.keeps hk) (qn6 HWl.out hmx) (qn6 HWm.out hmy));have HB2:=Aside0.mk (((Ao wr.heap.size wr).alloc (Ag _) (Af #[Aa Ab opx,Ac sx,Aa Ab dx,Aa Ab tx,Ae bx,Ad A1x n1x c1x,Ad A2x n2x c2x] 28)).alloc (by simp) (Af #[Aa Ab opz,Ac sz,Aa Ab dz,Aa Ab tz,Ae bz,Ad A1z n1z c1z,Ad A2z n2z c2z] 28));obtain⟨xc0,xc1,xc2,xc3,xc4,xc5,xc6⟩:=fc7 (qa (qm wr (Af #[Aa Ab opx,Ac sx,Aa Ab dx,Aa Ab tx,Ae bx,Ad A1x n1x c1x,Ad A2x n2x c2x] 28)) (Af #[Aa Ab opz,Ac sz,Aa Ab dz,Aa Ab tz,Ae bz,Ad A1z n1z c1z,Ad A2z n2z c2z] 28));replace y0:=(AA wr (Af #[Aa Ab opx,Ac sx,Aa Ab dx,Aa Ab tx,Ae bx,Ad A1x n1x c1x,Ad A2x n2x c2x] 28) _ (zn hba2)).trans y0;replace y1:=(AA wr (Af #[Aa Ab opx,Ac sx,Aa Ab dx,Aa Ab tx,Ae bx,Ad A1x n1x c1x,Ad A2x n2x c2x] 28) _ (zn hba2)).trans y1;replace y2:=(AA wr (Af #[Aa Ab opx,Ac sx,Aa Ab dx,Aa Ab tx,Ae bx,Ad A1x n1x c1x,Ad A2x n2x c2x] 28) _ (zn hba2)).trans y2;replace y3:=(AA wr (Af #[Aa Ab opx,Ac sx,Aa Ab dx,Aa Ab tx,Ae bx,Ad A1x n1x c1x,Ad A2x n2x c2x] 28) _ (zn hba2)).trans y3;replace y4:=(AA wr (Af #[Aa Ab opx,Ac sx,Aa Ab dx,Aa Ab tx,Ae bx,Ad A1x n1x c1x,Ad A2x n2x c2x] 28) _ (zn hba2)).trans y4;replace y5:=(AA wr (Af #[Aa Ab opx,Ac sx,Aa Ab dx,Aa Ab tx,Ae bx,Ad A1x n1x c1x,Ad A2x n2x c2x] 28) _ (zn hba2)).trans y5;replace y6:=(AA wr (Af #[Aa Ab opx,Ac sx,Aa Ab dx,Aa Ab tx,Ae bx,Ad A1x n1x c1x,Ad A2x n2x c2x] 28) _ (zn hba2)).trans y6;clear hix hiy hmx hmy hRx hRy HQ
    cases hq:qx1 x y with
    | false=>
     rw [hq]at hQ HC;simp only [Bool.false_and]at hQ;subst hQ;clear hq;go_wp2_with fail
     refine(HC.out _ (Keeps.of_below HB2.out)).mono ?_;rintro e w3 ⟨rfl,b3⟩;have HB3:=Aside0.mk (HBr.out.trans ((HB2.out.trans (b3.mono HB2.out.size)).mono HBr.out.size));clear b3;go_wp2_with fail
     go_ret;exact⟨rfl,HB3.out⟩
    | true=>
     rw [hq]at hQ HC;simp only [Bool.true_and]at hQ;have HQ9:=Aside0.mk hQ;clear hq hQ;go_wp2_with fail
     refine(HC.out _ (Keeps.of_below HB2.out)).mono ?_;rintro e w3 ⟨rfl,b3⟩;have HB3:=Aside0.mk (HBr.out.trans ((HB2.out.trans (b3.mono HB2.out.size)).mono HBr.out.size));clear b3;clear x0 x1 x2 x3 x4 x5 x6 y0 y1 y2 y3 y4 y5 y6 xc0 xc1 xc2 xc3 xc4 xc5 xc6;go_wp2_with fail
     obtain⟨g2,rfl⟩:∃ g2,gk=g2+1:=⟨gk - 1,zax⟩;go_roundg g2
     case measure=>omega
     case rel=>exact⟨i+1,congrArg (Value.int .i64) hw1,⟨zax⟩,HB3,HQ9⟩
   ·have hlt:decide ((i:Int)<(l.length:Int))=false:=by simp;omega
    have hlt2:decide (i<l.length)=false:=by simp;omega
    have hQ:=HQ.out;rw [qg11 HLm.out hi]at hQ;subst hQ;clear HQ hi;go_wp2_with fail
    go_ret;exact⟨rfl,HBr.out⟩
 ·rw [qx13 hlm];have hne:((l.length:Int) !=(m.length:Int))=true:=by simp;omega
  have hne2:(l.length !=m.length)=true:=by simp;omega
  have HB0:=Aside0.mk (Ao w.heap.size w);clear hl hR hW hR2 hW2 hwl hwm hlen hlen2 hlm;go_enter Tryz.func35,Tryz.ntmps35;go_wp2_with fail
  go_ret;exact⟨rfl,HB0.out⟩
theorem eq_S (l:List St) (hl:∀ x ∈ l,SameT x) (m:List St) (w:World) (F G:Nat→Prop) (A:Option Addr) (c:Nat) (A':Option Addr) (c':Nat) (xs ys:List Value) (hR:RepT F w l xs) (hW:Row F w A xs) (hR2:RepT G w m ys) (hW2:Row G w A' ys) (hwl:wfS l) (hwm:wfS m) (hlen:l.length≤maxLen) (hlen2:m.length≤maxLen) :
  Calls Am 36 #[Ad A l.length c,Ad A' m.length c',.func (.func 34) #[] #[]] w (qa11 w (qd3 l m)):=by
 by_cases hlm:l.length=m.length
 ·have HLm:=Aside0.mk hlm;obtain⟨R,hR0⟩:∃ R,qd3 l m=R:=⟨_,rfl⟩;rw [hR0];have HQs:Aside0 (qd3 (l.drop 0) (m.drop 0)=R):=⟨zbp⟩;have HL:=Aside0.mk hl;have HR:=Aside0.mk hR;have HW:=Aside0.mk hW;have HR2:=Aside0.mk hR2;have HW2:=Aside0.mk hW2;have HWl:=Aside0.mk hwl;have HWm:=Aside0.mk hwm;have HLen:=Aside0.mk (show l.length≤9223372036854775807 by unfold maxLen at hlen;omega);have HB0:=Aside0.mk (Ao w.heap.size w);have hne:((l.length:Int) !=(m.length:Int))=false:=by simp;omega
  have hne2:(l.length !=m.length)=false:=by simp;omega
  clear hlm hR0 hl hR hW hR2 hW2 hwl hwm hlen hlen2;go_enter Tryz.func36,Tryz.ntmps36;go_wp2_with fail
  go_loopg [17] l.length (fun kq v17 w'=>∃ i:Nat,v17= Aa Ab (i:Int)∧Aside0 (kq+i=l.length)∧Aside0 (Below w.heap.size w w')∧Aside0 (qd3 (l.drop i) (m.drop i)=R))
  case atStart=>exact⟨0,rfl,⟨rfl⟩,HB0,HQs⟩
  case round=>
   obtain⟨i,rfl,HI,HBr,HQ⟩:=hrel;clear HQs;by_cases hi:i<l.length
   ·obtain⟨x,hix⟩:∃ x,l[i]?=some x:=⟨_,AH hi⟩;obtain⟨y,hiy⟩:∃ y,m[i]?=some y:=⟨_,AH (by have:=HLm.out;omega)⟩;obtain⟨gx,ax,kx,sx,bx,A1x,n1x,c1x,rfl,hFa,hba,hRx,x0,x1,x2,x3,x4⟩:=Row.st (HR.out.keeps (Keeps.of_below HBr.out)) (HW.out.keeps (Keeps.of_below HBr.out)) i x hix;obtain⟨gz,az,kz,sz,bz,A1z,n1z,c1z,rfl,hFa2,hba2,hRy,y0,y1,y2,y3,y4⟩:=Row.st (HR2.out.keeps (Keeps.of_below HBr.out)) (HW2.out.keeps (Keeps.of_below HBr.out)) i y hiy;have hmx:x ∈ l:=Bd hix;have hmy:y ∈ m:=Bd hiy;have hlt:decide ((i:Int)<(l.length:Int))=true:=by simp;omega
    have h0i:(0:Int)≤(i:Int):=by omega
    have hil:(i:Int)<(l.length:Int):=by omega
    have him:(i:Int)<(m.length:Int):=by have:=HLm.out;omega
    have hw1:wrap64 ((i:Int)+1)=((i+1:Nat):Int):=by have:=HLen.out;unfold wrap64;omega
    have hQ:=HQ.out;rw [qi11 hi hix hiy]at hQ;have HC:=Aside0.mk (fun (W:World) (hk:∀ {F:Nat→Prop},Keeps F wr W)=>HL.out x hmx y W F G _ _ _ _ _ _ _ _ _ _ _ _ _ _ (hRx.keeps hk) (hRy.keeps hk) (qn7 HWl.out hmx) (qn7 HWm.out hmy));have HB2:=Aside0.mk (((Ao wr.heap.size wr).alloc (Ag _) (Af #[Aa Ab ax,Aa Ab kx,Ac sx,Ae bx,Ad A1x n1x c1x] 73)).alloc (by simp) (Af #[Aa Ab az,Aa Ab kz,Ac sz,Ae bz,Ad A1z n1z c1z] 73));obtain⟨xc0,xc1,xc2,xc3,xc4⟩:=fc5 (qa (qm wr (Af #[Aa Ab ax,Aa Ab kx,Ac sx,Ae bx,Ad A1x n1x c1x] 73)) (Af #[Aa Ab az,Aa Ab kz,Ac sz,Ae bz,Ad A1z n1z c1z] 73));replace y0:=(AA wr (Af #[Aa Ab ax,Aa Ab kx,Ac sx,Ae bx,Ad A1x n1x c1x] 73) _ (zl hba2)).trans y0;replace y1:=(AA wr (Af #[Aa Ab ax,Aa Ab kx,Ac sx,Ae bx,Ad A1x n1x c1x] 73) _ (zl hba2)).trans y1;replace y2:=(AA wr (Af #[Aa Ab ax,Aa Ab kx,Ac sx,Ae bx,Ad A1x n1x c1x] 73) _ (zl hba2)).trans y2;replace y3:=(AA wr (Af #[Aa Ab ax,Aa Ab kx,Ac sx,Ae bx,Ad A1x n1x c1x] 73) _ (zl hba2)).trans y3;replace y4:=(AA wr (Af #[Aa Ab ax,Aa Ab kx,Ac sx,Ae bx,Ad A1x n1x c1x] 73) _ (zl hba2)).trans y4;clear hix hiy hmx hmy hRx hRy HQ
    cases hq:qc3 x y with
    | false=>
     rw [hq]at hQ HC;simp only [Bool.false_and]at hQ;subst hQ;clear hq;go_wp2_with fail
     refine(HC.out _ (Keeps.of_below HB2.out)).mono ?_;rintro e w3 ⟨rfl,b3⟩;have HB3:=Aside0.mk (HBr.out.trans ((HB2.out.trans (b3.mono HB2.out.size)).mono HBr.out.size));clear b3;go_wp2_with fail
     go_ret;exact⟨rfl,HB3.out⟩
    | true=>
     rw [hq]at hQ HC;simp only [Bool.true_and]at hQ;have HQ9:=Aside0.mk hQ;clear hq hQ;go_wp2_with fail
     refine(HC.out _ (Keeps.of_below HB2.out)).mono ?_;rintro e w3 ⟨rfl,b3⟩;have HB3:=Aside0.mk (HBr.out.trans ((HB2.out.trans (b3.mono HB2.out.size)).mono HBr.out.size));clear b3;clear x0 x1 x2 x3 x4 y0 y1 y2 y3 y4 xc0 xc1 xc2 xc3 xc4;go_wp2_with fail
     obtain⟨g2,rfl⟩:∃ g2,gk=g2+1:=⟨gk - 1,zax⟩;go_roundg g2
     case measure=>omega
     case rel=>exact⟨i+1,congrArg (Value.int .i64) hw1,⟨zax⟩,HB3,HQ9⟩
   ·have hlt:decide ((i:Int)<(l.length:Int))=false:=by simp;omega
    have hlt2:decide (i<l.length)=false:=by simp;omega
    have hQ:=HQ.out;rw [qy13 HLm.out hi]at hQ;subst hQ;clear HQ hi;go_wp2_with fail
    go_ret;exact⟨rfl,HBr.out⟩
 ·rw [qv16 hlm];have hne:((l.length:Int) !=(m.length:Int))=true:=by simp;omega
  have hne2:(l.length !=m.length)=true:=by simp;omega
  have HB0:=Aside0.mk (Ao w.heap.size w);clear hl hR hW hR2 hW2 hwl hwm hlen hlen2 hlm;go_enter Tryz.func36,Tryz.ntmps36;go_wp2_with fail
  go_ret;exact⟨rfl,HB0.out⟩
end Go.Proofs.YtocdckniokhbbaaGreatDoor.Syn
namespace Go.Proofs.YtocdckniokhbbaaGreatDoor.Syn
open Go.RowKit Go.Shelf YtocdckniokhbbaaGreatDoorW.PrintWords YtocdckniokhbbaaGreatDoorW.PrintLast YtocdckniokhbbaaGreatDoorW.PrintMore CharB SpanA FigD LexA LexF
structure PB (p:Nat) (A:Option Addr) (cap:Nat) (l r:List Wd) (W:World):Prop where
 blk:W.heap[p]?=some (Af #[Ad A l.length cap,Aa Ab ((l.length - r.length:Nat):Int)] 62 (0,0))
 suf:∃ u,l=u ++ r
 row:l= []∨ ∃ g,A=some ⟨g,0,none⟩∧g≠p∧g<W.heap.size∧ ∀ j u,(wcs l)[j]?=some u→W.cell? ⟨g,j,none⟩=some u
 few:l.length≤1000
theorem PB.lt {p:Nat} {A:Option Addr} {cap:Nat} {l r:List Wd} {W:World} (h:PB p A cap l r W):p<W.heap.size:=(An.1 h.blk).1
theorem PB.below {p:Nat} {A:Option Addr} {cap:Nat} {l r:List Wd} {W W':World} (h:PB p A cap l r W) (hb:Below W.heap.size W W'):PB p A cap l r W':=by
 refine⟨(hb.block p h.lt).trans h.blk,h.suf,?_,h.few⟩
 rcases h.row with h1 | ⟨g,h1,h2,h3,h4⟩
 ·exact .inl h1
 ·exact .inr ⟨g,h1,h2,AV h3 hb.size,fun j u hu=>by rw [hb.cell (p:=⟨g,j,none⟩) h3];exact h4 j u hu⟩
theorem PB.drew {p:Nat} {A:Option Addr} {cap:Nat} {l r:List Wd} {W:World} (h:PB p A cap l r W):PB p A cap l r W.drew:=⟨h.blk,h.suf,h.row,h.few⟩
theorem PB.word {p:Nat} {A:Option Addr} {cap:Nat} {l r:List Wd} {x:Wd} {W:World} (h:PB p A cap l (x :: r) W):∃ g,A=some ⟨g,0,none⟩∧g≠p∧g<W.heap.size∧l.length - (x :: r).length<l.length ∧
  W.cell? ⟨g,(l.length - (x :: r).length)*4,none⟩=some (Aa Ab x.1)∧W.cell? ⟨g,(l.length - (x :: r).length)*4+1,none⟩=some (Ac (ba x.2.1)) ∧
  W.cell? ⟨g,(l.length - (x :: r).length)*4+2,none⟩=some (Aa Ab x.2.2.1)∧W.cell? ⟨g,(l.length - (x :: r).length)*4+3,none⟩=some (Aa Ab x.2.2.2):=by
 obtain⟨u,hu⟩:=h.suf;have hl:l.length=u.length+(r.length+1):=by rw [hu];simp
 have hk:l.length - (x :: r).length=u.length:=by rw [hl];simp
 have he:∀ i v,(wc x)[i]?=some v→(wcs l)[u.length*4+i]?=some v:=by
  intro i v hv;have hi:i<4:=by have:=(List.getElem?_eq_some_iff.1 hv).1;simpa [wc]using this
  rw [hu,qo7,List.getElem?_append_right (by rw [qp5];omega),qp5,Nat.add_sub_cancel_left];show(wcs ([x] ++ r))[i]?=_;rw [qo7,qf9,List.getElem?_append_left (by simp [wc];omega)];exact hv
 rcases h.row with h1 | ⟨g,h1,h2,h3,h4⟩
 ·rw [h1]at hl;simp at hl
 ·rw [hk];exact⟨g,h1,h2,h3,by omega,h4 _ _ (he 0 _ rfl),h4 _ _ (he 1 _ rfl),h4 _ _ (he 2 _ rfl),h4 _ _ (he 3 _ rfl)⟩
def qn (p:Nat):Value:= .pointer (some ⟨p,0,none⟩)
theorem ba_beq (a b:List UInt8):((ba a).toList == (ba b).toList)=(a == b):=by rw [AB,AB];rfl
theorem qa3 (p:Nat) (A:Option Addr) (cap:Nat) (l r:List Wd) (k:Int) (s:List UInt8) (w:World) (h:PB p A cap l r w) :
  Calls Am 133 #[qn p,Aa Ab k,Ac (ba s)] w fun e w'=>e= .returned (Ae (isW k s r))∧ ∃ n,w'=w.drewN n:=by
 have c0:w.cell? ⟨p,0,none⟩=some (Ad A l.length cap):=by rw [qu h.blk];rfl
 have c1:w.cell? ⟨p,1,none⟩=some (Aa Ab ((l.length - r.length:Nat):Int)):=by rw [qu h.blk];rfl
 have hf:=h.few
 cases r with
 | nil=>
  have hd:decide (l.length - ([]:List Wd).length<l.length)=false:=by simp
  have he:isW k s []=false:=rfl;rw [he];generalize l.length - ([]:List Wd).length=m at *;clear h hf he;unfold qn;go_enter Tryz.func133,Tryz.ntmps133;go_wp2_with fail
  go_quiet (fail);go_wp2_with fail
  go_ret;exact⟨rfl,_,rfl⟩
 | cons x r=>
  obtain⟨g,rfl,hg,hgl,hm,x0,x1,_,_⟩:=h.word;have hd:decide (l.length - (x :: r).length<l.length)=true:=by simpa using hm
  have i0:(0:Int)≤((l.length - (x :: r).length:Nat):Int):=by omega
  have i1:((l.length - (x :: r).length:Nat):Int)<(l.length:Int):=by omega
  generalize l.length - (x :: r).length=m at *;by_cases hk:x.1=k
  ·subst hk;have hs:=ba_beq x.2.1 s;have hq:isW x.1 s (x :: r)=(x.2.1 == s):=by simp [isW]
   rw [hq];clear h hf hm hg hgl hq;unfold qn;go_enter Tryz.func133,Tryz.ntmps133;go_wp2_with fail
   go_quiet (fail);go_wp2_with fail
   go_ret;exact⟨rfl,_,rfl⟩
  ·have hq:isW k s (x :: r)=false:=by simp [isW,hk]
   rw [hq];have hk2:(x.1 == k)=false:=by simpa using hk
   clear h hf hm hg hgl hq hk;unfold qn;go_enter Tryz.func133,Tryz.ntmps133;go_wp2_with fail
   go_quiet (fail);go_wp2_with fail
   go_ret;exact⟨rfl,_,rfl⟩
theorem PB.drewN {p:Nat} {A:Option Addr} {cap:Nat} {l r:List Wd} {W:World} (h:PB p A cap l r W) (n:Nat):PB p A cap l r (W.drewN n):=⟨h.blk,h.suf,h.row,h.few⟩
theorem PB.step {p:Nat} {A:Option Addr} {cap:Nat} {l r:List Wd} {x:Wd} {W:World} {m:Nat} (h:PB p A cap l (x :: r) W) (hm:l.length - (x :: r).length=m):PB p A cap l r (W.setCell ⟨p,1,none⟩ (Aa Ab ((m:Int)+1))):=by
 obtain⟨u,hu⟩:=h.suf;have hl:l.length=u.length+(r.length+1):=by rw [hu];simp
 refine⟨?_,⟨u ++ [x],by rw [hu];simp⟩,?_,h.few⟩
 ·have:=ql11 h.blk 1 (Aa Ab ((m:Int)+1));rw [this];have e:((m:Int)+1)=((l.length - r.length:Nat):Int):=by rw [← hm,hl];simp;omega
  rw [e];rfl
 ·rcases h.row with h1 | ⟨g,h1,h2,h3,h4⟩
  ·exact .inl h1
  ·refine .inr ⟨g,h1,h2,by simpa [Ar]using h3,fun j v hv=>?_⟩;rw [World.cell?_of_block (w:=W) (AS W ⟨p,1,none⟩ _ g h2)];exact h4 j v hv
theorem qt1 (p:Nat) (A:Option Addr) (cap:Nat) (l r:List Wd) (k:Int) (s:List UInt8) (w:World) (h:PB p A cap l r w) (ht:takeW k s r=none) :
  Calls Am 98 #[qn p,Aa Ab k,Ac (ba s)] w fun e w'=>e= .returned (Ae false)∧ ∃ n,w'=w.drewN n:=by
 have hc:=qa3 p A cap l r k s w h;rw [take_none.1 ht]at hc;clear h ht;unfold qn at *;go_enter Tryz.func98,Tryz.ntmps98;go_wp2_with fail
 refine hc.mono ?_;rintro e w1 ⟨rfl,n,rfl⟩;clear hc;go_wp2_with fail
 go_ret;exact⟨rfl,n,rfl⟩
theorem qf2 (p:Nat) (A:Option Addr) (cap:Nat) (l r r1:List Wd) (k:Int) (s:List UInt8) (w:World) (h:PB p A cap l r w) (ht:takeW k s r=some r1) :
  Calls Am 98 #[qn p,Aa Ab k,Ac (ba s)] w fun e w'=>e= .returned (Ae true)∧PB p A cap l r1 w'∧Fr p w.heap.size w w':=by
 have hc:=qa3 p A cap l r k s w h;have hi:isW k s r=true:=by rw [← qr19,ht];rfl
 obtain⟨x,rfl,_,_⟩:=qv ht;rw [hi]at hc;obtain⟨m,hm⟩:∃ m,l.length - (x :: r1).length=m:=⟨_,rfl⟩;have hml:m≤1000:=by have:=h.few;omega
 have H:=Aside0.mk h;have HM:=Aside0.mk hm;have c1:w.cell? ⟨p,1,none⟩=some (Aa Ab (m:Int)):=by rw [qu h.blk,← hm];rfl
 have f1:w.frozen? ⟨p,1,none⟩=false:=Bb h.blk 1;clear h ht hi hm;unfold qn at *;go_enter Tryz.func98,Tryz.ntmps98;go_wp2_with fail
 refine hc.mono ?_;rintro e w1 ⟨rfl,n,rfl⟩;have d1:(w.drewN n).cell? ⟨p,1,none⟩=some (Aa Ab (m:Int)):=c1;have g1:(w.drewN n).frozen? ⟨p,1,none⟩=false:=f1;clear hc c1 f1;go_wp2_with fail
 go_ret;exact⟨rfl,(H.out.drewN n).step HM.out,((Fr.refl p _ w).drewN n).set (.inl rfl) (Ah H.out.lt) 1 _⟩
def qu1:Ending:= .panicked [{v:= .iface 58 (.agg #[]),recovered:=false}]
theorem qw2 (w:World):Calls Am 28 #[Ae true] w fun e w'=>e= .returned (.tuple #[])∧w'=w:=by
 go_enter Tryz.func28,Tryz.ntmps28;go_wp2_with fail
 first | go_end0 | refine bodyPost_ret (results_none rfl _ _ _) rfl ?_
 exact⟨rfl,rfl⟩
theorem qw9 (w:World):Calls Am 28 #[Ae false] w fun e w'=>e=qu1∧w'=w:=by
 go_enter Tryz.func28,Tryz.ntmps28;go_wp2_with fail
 exact⟨rfl,rfl,rfl⟩
end Go.Proofs.YtocdckniokhbbaaGreatDoor.Syn
namespace Go.Proofs.YtocdckniokhbbaaGreatDoor.Syn
open Go.RowKit Go.Shelf YtocdckniokhbbaaGreatDoorW.PrintWords YtocdckniokhbbaaGreatDoorW.PrintLast YtocdckniokhbbaaGreatDoorW.PrintMore CharB SpanA FigD LexA LexF
theorem qg4 (p:Nat) (A:Option Addr) (cap:Nat) (l r:List Wd) (k:Int) (s:List UInt8) (w:World) (h:PB p A cap l r w) (ht:takeW k s r=none) :
  Calls Am 217 #[qn p,Aa Ab k,Ac (ba s)] w fun e w'=>e=qu1∧ ∃ n,w'=w.drewN n:=by
 have hc:=qt1 p A cap l r k s w h ht;have hn:=fun W=>qw9 W;clear h ht;unfold qn at *;go_enter Tryz.func217,Tryz.ntmps217;go_wp2_with fail
 refine hc.mono ?_;rintro e w1 ⟨rfl,n,rfl⟩;clear hc;go_wp2_with fail
 refine(hn _).mono ?_;rintro e w1 ⟨rfl,rfl⟩;exact⟨rfl,rfl,n,rfl⟩
theorem qs1 (p:Nat) (A:Option Addr) (cap:Nat) (l r r1:List Wd) (k:Int) (s:List UInt8) (w:World) (h:PB p A cap l r w) (ht:takeW k s r=some r1) :
  Calls Am 217 #[qn p,Aa Ab k,Ac (ba s)] w fun e w'=>e= .returned (.tuple #[])∧PB p A cap l r1 w'∧Fr p w.heap.size w w':=by
 have hc:=qf2 p A cap l r r1 k s w h ht;have hn:=fun W=>qw2 W;clear h ht;unfold qn at *;go_enter Tryz.func217,Tryz.ntmps217;go_wp2_with fail
 refine hc.mono ?_;rintro e w1 ⟨rfl,h1,h2⟩;have H1:=Aside0.mk h1;have H2:=Aside0.mk h2;clear hc h1 h2;go_wp2_with fail
 refine(hn _).mono ?_;rintro e w2 ⟨rfl,rfl⟩;go_wp2_with fail
 first | go_end0 | refine bodyPost_ret (results_none rfl _ _ _) rfl ?_
 exact⟨rfl,H1.out,H2.out⟩
theorem qv2 (p:Nat) (A:Option Addr) (cap:Nat) (l r:List Wd) (k:Int) (w:World) (h:PB p A cap l r w) :
  Calls Am 205 #[qn p,Aa Ab k] w fun e w'=>e= .returned (Ae (ofW k r))∧ ∃ n,w'=w.drewN n:=by
 have c0:w.cell? ⟨p,0,none⟩=some (Ad A l.length cap):=by rw [qu h.blk];rfl
 have c1:w.cell? ⟨p,1,none⟩=some (Aa Ab ((l.length - r.length:Nat):Int)):=by rw [qu h.blk];rfl
 have hf:=h.few
 cases r with
 | nil=>
  have hd:decide (l.length - ([]:List Wd).length<l.length)=false:=by simp
  have he:ofW k []=false:=rfl;rw [he];generalize l.length - ([]:List Wd).length=m at *;clear h hf he;unfold qn;go_enter Tryz.func205,Tryz.ntmps205;go_wp2_with fail
  go_quiet (fail);go_wp2_with fail
  go_ret;exact⟨rfl,_,rfl⟩
 | cons x r=>
  obtain⟨g,rfl,hg,hgl,hm,x0,x1,_,_⟩:=h.word;have hd:decide (l.length - (x :: r).length<l.length)=true:=by simpa using hm
  have i0:(0:Int)≤((l.length - (x :: r).length:Nat):Int):=by omega
  have i1:((l.length - (x :: r).length:Nat):Int)<(l.length:Int):=by omega
  generalize l.length - (x :: r).length=m at *;have hq:ofW k (x :: r)=(x.1 == k):=rfl;rw [hq];clear h hf hm hg hgl hq x1;unfold qn;go_enter Tryz.func205,Tryz.ntmps205;go_wp2_with fail
  go_quiet (fail);go_wp2_with fail
  go_ret;exact⟨rfl,_,rfl⟩
theorem qi10 (p:Nat) (A:Option Addr) (cap:Nat) (l r:List Wd) (w:World) (h:PB p A cap l r w) :
  Calls Am 191 #[qn p] w fun e w'=>e= .returned (Ae (qa2 r))∧ ∃ n,w'=w.drewN n:=by
 unfold qa2;generalize h0:ofW 10 r=b0;generalize h1:ofW 8 r=b1;generalize h2:ofW 9 r=b2;generalize h3:ofW 6 r=b3;generalize h4:isW 1 [40] r=b4;have H0:Aside0 (∀ n,Calls Am 205 #[qn p,Aa Ab 10] (w.drewN n) fun e w'=>e= .returned (Ae b0)∧ ∃ m,w'=(w.drewN n).drewN m):=⟨fun n=>by have:=qv2 p A cap l r 10 _ (h.drewN n);rwa [h0]at this⟩;have H1:Aside0 (∀ n,Calls Am 205 #[qn p,Aa Ab 8] (w.drewN n) fun e w'=>e= .returned (Ae b1)∧ ∃ m,w'=(w.drewN n).drewN m):=⟨fun n=>by have:=qv2 p A cap l r 8 _ (h.drewN n);rwa [h1]at this⟩;have H2:Aside0 (∀ n,Calls Am 205 #[qn p,Aa Ab 9] (w.drewN n) fun e w'=>e= .returned (Ae b2)∧ ∃ m,w'=(w.drewN n).drewN m):=⟨fun n=>by have:=qv2 p A cap l r 9 _ (h.drewN n);rwa [h2]at this⟩;have H3:Aside0 (∀ n,Calls Am 205 #[qn p,Aa Ab 6] (w.drewN n) fun e w'=>e= .returned (Ae b3)∧ ∃ m,w'=(w.drewN n).drewN m):=⟨fun n=>by have:=qv2 p A cap l r 6 _ (h.drewN n);rwa [h3]at this⟩;have H4:Aside0 (∀ n,Calls Am 133 #[qn p,Aa Ab 1,Ac ⟨#[40]⟩] (w.drewN n) fun e w'=>e= .returned (Ae b4)∧ ∃ m,w'=(w.drewN n).drewN m):=⟨fun n=>by have:=qa3 p A cap l r 1 [40] _ (h.drewN n);rwa [h4]at this⟩;clear h h0 h1 h2 h3 h4;unfold qn at *;go_enter Tryz.func191,Tryz.ntmps191;go_wp2_with fail
 refine(H0.out 0).mono ?_;rintro e w0 ⟨rfl,n0,rfl⟩
 cases b0 with
 | true=>
  go_wp2_with fail
  go_ret;exact⟨rfl,_,rfl⟩
 | false=>
  go_wp2_with fail
  refine(H1.out _).mono ?_;rintro e w1 ⟨rfl,n1,rfl⟩
  cases b1 with
  | true=>
   go_wp2_with fail
   go_ret;exact⟨rfl,_,rfl⟩
  | false=>
   go_wp2_with fail
   refine(H2.out _).mono ?_;rintro e w2 ⟨rfl,n2,rfl⟩
   cases b2 with
   | true=>
    go_wp2_with fail
    go_ret;exact⟨rfl,_,rfl⟩
   | false=>
    go_wp2_with fail
    refine(H3.out _).mono ?_;rintro e w3 ⟨rfl,n3,rfl⟩
    cases b3 with
    | true=>
     go_wp2_with fail
     go_ret;exact⟨rfl,_,rfl⟩
    | false=>
     go_wp2_with fail
     refine(H4.out _).mono ?_;rintro e w4 ⟨rfl,n4,rfl⟩;go_wp2_with fail
     go_ret;exact⟨rfl,_,rfl⟩
theorem qd11 (p:Nat) (A:Option Addr) (cap:Nat) (l r:List Wd) (w:World) (h:PB p A cap l r w) :
  Calls Am 206 #[qn p] w fun e w'=>e= .returned (Ae (qi4 r))∧ ∃ n,w'=w.drewN n:=by
 unfold qi4;generalize h0:ofW 7 r=b0;generalize h1:ofW 2 r=b1;generalize h2:ofW 3 r=b2;generalize h3:ofW 4 r=b3;generalize h4:isW 1 [46] r=b4;generalize h5:isW 1 [46,46] r=b5;generalize h6:isW 1 [64] r=b6;have H0:Aside0 (∀ n,Calls Am 205 #[qn p,Aa Ab 7] (w.drewN n) fun e w'=>e= .returned (Ae b0)∧ ∃ m,w'=(w.drewN n).drewN m):=⟨fun n=>by have:=qv2 p A cap l r 7 _ (h.drewN n);rwa [h0]at this⟩;have H1:Aside0 (∀ n,Calls Am 205 #[qn p,Aa Ab 2] (w.drewN n) fun e w'=>e= .returned (Ae b1)∧ ∃ m,w'=(w.drewN n).drewN m):=⟨fun n=>by have:=qv2 p A cap l r 2 _ (h.drewN n);rwa [h1]at this⟩;have H2:Aside0 (∀ n,Calls Am 205 #[qn p,Aa Ab 3] (w.drewN n) fun e w'=>e= .returned (Ae b2)∧ ∃ m,w'=(w.drewN n).drewN m):=⟨fun n=>by have:=qv2 p A cap l r 3 _ (h.drewN n);rwa [h2]at this⟩;have H3:Aside0 (∀ n,Calls Am 205 #[qn p,Aa Ab 4] (w.drewN n) fun e w'=>e= .returned (Ae b3)∧ ∃ m,w'=(w.drewN n).drewN m):=⟨fun n=>by have:=qv2 p A cap l r 4 _ (h.drewN n);rwa [h3]at this⟩;have H4:Aside0 (∀ n,Calls Am 133 #[qn p,Aa Ab 1,Ac ⟨#[46]⟩] (w.drewN n) fun e w'=>e= .returned (Ae b4)∧ ∃ m,w'=(w.drewN n).drewN m):=⟨fun n=>by have:=qa3 p A cap l r 1 [46] _ (h.drewN n);rwa [h4]at this⟩;have H5:Aside0 (∀ n,Calls Am 133 #[qn p,Aa Ab 1,Ac ⟨#[46,46]⟩] (w.drewN n) fun e w'=>e= .returned (Ae b5)∧ ∃ m,w'=(w.drewN n).drewN m):=⟨fun n=>by have:=qa3 p A cap l r 1 [46,46] _ (h.drewN n);rwa [h5]at this⟩;have H6:Aside0 (∀ n,Calls Am 133 #[qn p,Aa Ab 1,Ac ⟨#[64]⟩] (w.drewN n) fun e w'=>e= .returned (Ae b6)∧ ∃ m,w'=(w.drewN n).drewN m):=⟨fun n=>by have:=qa3 p A cap l r 1 [64] _ (h.drewN n);rwa [h6]at this⟩;clear h h0 h1 h2 h3 h4 h5 h6;unfold qn at *;go_enter Tryz.func206,Tryz.ntmps206;go_wp2_with fail
 refine(H0.out 0).mono ?_;rintro e w0 ⟨rfl,n0,rfl⟩
 cases b0 with
 | true=>
  go_wp2_with fail
  go_ret;exact⟨rfl,_,rfl⟩
 | false=>
  go_wp2_with fail
  refine(H1.out _).mono ?_;rintro e w1 ⟨rfl,n1,rfl⟩
  cases b1 with
  | true=>
   go_wp2_with fail
   go_ret;exact⟨rfl,_,rfl⟩
  | false=>
   go_wp2_with fail
   refine(H2.out _).mono ?_;rintro e w2 ⟨rfl,n2,rfl⟩
   cases b2 with
   | true=>
    go_wp2_with fail
    go_ret;exact⟨rfl,_,rfl⟩
   | false=>
    go_wp2_with fail
    refine(H3.out _).mono ?_;rintro e w3 ⟨rfl,n3,rfl⟩
    cases b3 with
    | true=>
     go_wp2_with fail
     go_ret;exact⟨rfl,_,rfl⟩
    | false=>
     go_wp2_with fail
     refine(H4.out _).mono ?_;rintro e w4 ⟨rfl,n4,rfl⟩
     cases b4 with
     | true=>
      go_wp2_with fail
      go_ret;exact⟨rfl,_,rfl⟩
     | false=>
      go_wp2_with fail
      refine(H5.out _).mono ?_;rintro e w5 ⟨rfl,n5,rfl⟩
      cases b5 with
      | true=>
       go_wp2_with fail
       go_ret;exact⟨rfl,_,rfl⟩
      | false=>
       go_wp2_with fail
       refine(H6.out _).mono ?_;rintro e w6 ⟨rfl,n6,rfl⟩;go_wp2_with fail
       go_ret;exact⟨rfl,_,rfl⟩
end Go.Proofs.YtocdckniokhbbaaGreatDoor.Syn
namespace Go.Proofs.YtocdckniokhbbaaGreatDoor.Syn
open Go.RowKit Go.Shelf YtocdckniokhbbaaGreatDoorW.PrintWords YtocdckniokhbbaaGreatDoorW.PrintLast YtocdckniokhbbaaGreatDoorW.PrintMore CharB SpanA FigD LexA LexF
theorem qf19 (p:Nat) (A:Option Addr) (cap:Nat) (l:List Wd) (w:World) (h:PB p A cap l [] w) :
  Calls Am 216 #[qn p] w fun e w'=>e=qu1∧Fr p w.heap.size w w':=by
 have c0:w.cell? ⟨p,0,none⟩=some (Ad A l.length cap):=by rw [qu h.blk];rfl
 have c1:w.cell? ⟨p,1,none⟩=some (Aa Ab ((l.length - ([]:List Wd).length:Nat):Int)):=by rw [qu h.blk];rfl
 have hn:∀ W,Calls Am 28 #[Ae false] W fun e w'=>(e=qu1∧w'=W)∨(e= .returned (.tuple #[])∧w'=W∧Aside0 False):=fun W=>(qw9 W).mono fun _ _ h=> .inl h;have hd:decide (l.length - ([]:List Wd).length<l.length)=false:=by simp
 generalize l.length - ([]:List Wd).length=m at *;have hp:=h.lt;have F0:=Aside0.mk (((Fr.refl p w.heap.size w).alloc (Ag _) (Ah hp) (Af #[Aa Ab 0,Ac ⟨#[]⟩,Aa Ab 0,Aa Ab 0] 93)).drew);have d0:=(AA w (Af #[Aa Ab 0,Ac ⟨#[]⟩,Aa Ab 0,Aa Ab 0] 93) ⟨p,0,none⟩ hp).trans c0;have d1:=(AA w (Af #[Aa Ab 0,Ac ⟨#[]⟩,Aa Ab 0,Aa Ab 0] 93) ⟨p,1,none⟩ hp).trans c1;clear h hp c0 c1;unfold qn;go_enter Tryz.func216,Tryz.ntmps216;go_wp2_with fail
 go_region_with (first | (go_at_call 28;refine(hn _).mono ?_;rintro e w1 (⟨rfl,rfl⟩ | ⟨rfl,rfl,hF⟩);exact⟨rfl,rfl,F0.out⟩))
 all_goals exact hF.out.elim
theorem qt (W:World) (b j:Nat) (v:Value) (k:Nat) (h:k≠b):(W.setCell ⟨b,j,none⟩ v).heap[k]?=W.heap[k]? :=AS W ⟨b,j,none⟩ v k h
theorem W_of_fr {p g:Nat} {w W:World} (hf:Fr p w.heap.size w W) (h2:g≠p) (h3:g<w.heap.size):W.heap[g]?=w.heap[g]? :=by
 rcases Nat.lt_or_gt_of_ne h2 with h | h
 ·exact hf.1.block g h
 ·exact hf.2 g h h3
theorem qx21 (W:World) (k:Nat):W.drew.heap[k]?=W.heap[k]? :=rfl
theorem PB.move {p:Nat} {A:Option Addr} {cap:Nat} {l r r':List Wd} {w W:World} (h:PB p A cap l r w) (hf:Fr p w.heap.size w W) (hb:W.heap[p]?=some (Af #[Ad A l.length cap,Aa Ab ((l.length - r'.length:Nat):Int)] 62 (0,0))) (hs:∃ u,l=u ++ r'):PB p A cap l r' W:=by
 refine⟨hb,hs,?_,h.few⟩
 rcases h.row with h1 | ⟨g,h1,h2,h3,h4⟩
 ·exact .inl h1
 ·exact .inr ⟨g,h1,h2,AV h3 hf.1.size,fun j u hu=>by rw [World.cell?_of_block (w:=w) (W_of_fr hf h2 h3)];exact h4 j u hu⟩
theorem qo1 (p:Nat) (A:Option Addr) (cap:Nat) (l r:List Wd) (x:Wd) (w:World) (h:PB p A cap l (x :: r) w) :
  Calls Am 216 #[qn p] w fun e w'=>e= .returned (.agg #[Aa Ab x.1,Ac (ba x.2.1),Aa Ab x.2.2.1,Aa Ab x.2.2.2])∧PB p A cap l r w'∧Fr p w.heap.size w w':=by
 have HW:=Aside0.mk h;obtain⟨x1,x2,x3,x4⟩:=x;have hn:=fun W=>qw2 W;obtain⟨g,hA,hg,hgl,hml,y0,y1,y2,y3⟩:=h.word;subst hA;obtain⟨m,hm⟩:∃ m,l.length - ((x1,x2,x3,x4) :: r).length=m:=⟨_,rfl⟩;rw [hm]at y0 y1 y2 y3 hml;have hml2:m≤1000:=by have:=h.few;omega
 have c0:w.cell? ⟨p,0,none⟩=some (Ad (some ⟨g,0,none⟩) l.length cap):=by rw [qu h.blk];rfl
 have c1:w.cell? ⟨p,1,none⟩=some (Aa Ab (m:Int)):=by rw [qu h.blk,hm];rfl
 have f1:w.frozen? ⟨p,1,none⟩=false:=Bb h.blk 1;have hd:decide (m<l.length)=true:=by simpa using hml
 have i0:(0:Int)≤(m:Int):=by omega
 have i1:(m:Int)<(l.length:Int):=by omega
 have hp:=h.lt;obtain⟨W1,hW1⟩:∃ W,W=w.alloc (Af #[Aa Ab 0,Ac ⟨#[]⟩,Aa Ab 0,Aa Ab 0] 93):=⟨_,rfl⟩;have al:∀ (a:Addr) (u:Value),a.block<w.heap.size→w.cell? a=some u→W1.cell? a=some u:=fun a u ha hu=>by rw [hW1];exact(AA w _ a ha).trans hu
 have d0:=al _ _ hp c0;have d1:=al _ _ hp c1;have hq:=(h.below (W':=W1) (by rw [hW1];exact(Ao _ _).alloc (Ag _) _));have g1:W1.frozen? ⟨p,1,none⟩=false:=Bb hq.blk 1;have e0:=al _ _ hgl y0;have e1:=al _ _ hgl y1;have e2:=al _ _ hgl y2;have e3:=al _ _ hgl y3;have hF:=((Fr.refl p w.heap.size w).alloc (Ag _) (Ah hp) (Af #[Aa Ab 0,Ac ⟨#[]⟩,Aa Ab 0,Aa Ab 0] 93));rw [← hW1]at hF;have hnew:=qm w (Af #[Aa Ab 0,Ac ⟨#[]⟩,Aa Ab 0,Aa Ab 0] 93);rw [← hW1]at hnew;have k0:∀ n,((W1.drewN n).setCell ⟨p,1,none⟩ (Aa Ab ((m:Int)+1))).cell? ⟨g,m*4,none⟩=some (Aa Ab x1):=fun n=>(B9 (W1.drewN n) ⟨p,1,none⟩ ⟨g,m*4,none⟩ _ (Ne.symm hg)).trans e0;have k1:∀ n,((W1.drewN n).setCell ⟨p,1,none⟩ (Aa Ab ((m:Int)+1))).cell? ⟨g,m*4+1,none⟩=some (Ac (ba x2)):=fun n=>(B9 (W1.drewN n) ⟨p,1,none⟩ ⟨g,m*4+1,none⟩ _ (Ne.symm hg)).trans e1;have k2:∀ n,((W1.drewN n).setCell ⟨p,1,none⟩ (Aa Ab ((m:Int)+1))).cell? ⟨g,m*4+2,none⟩=some (Aa Ab x3):=fun n=>(B9 (W1.drewN n) ⟨p,1,none⟩ ⟨g,m*4+2,none⟩ _ (Ne.symm hg)).trans e2;have k3:∀ n,((W1.drewN n).setCell ⟨p,1,none⟩ (Aa Ab ((m:Int)+1))).cell? ⟨g,m*4+3,none⟩=some (Aa Ab x4):=fun n=>(B9 (W1.drewN n) ⟨p,1,none⟩ ⟨g,m*4+3,none⟩ _ (Ne.symm hg)).trans e3;have hn2:∀ n,((W1.drewN n).setCell ⟨p,1,none⟩ (Aa Ab ((m:Int)+1))).heap[w.heap.size]?=some (Af #[Aa Ab 0,Ac ⟨#[]⟩,Aa Ab 0,Aa Ab 0] 93 (0,0)):=fun n=>(AS (W1.drewN n) ⟨p,1,none⟩ _ w.heap.size (by show w.heap.size≠p;omega)).trans hnew;have z0:=fun n=>(Ai (hn2 n) 0).trans (show _=some (Aa Ab 0)from rfl);have z1:=fun n=>(Ai (hn2 n) 1).trans (show _=some (Ac ⟨#[]⟩)from rfl);have z2:=fun n=>(Ai (hn2 n) 2).trans (show _=some (Aa Ab 0)from rfl);have z3:=fun n=>(Ai (hn2 n) 3).trans (show _=some (Aa Ab 0)from rfl);have u0:=fun n=>qc (hn2 n) 0;have u1:=fun n=>qc (hn2 n) 1;have u2:=fun n=>qc (hn2 n) 2;have u3:=fun n=>qc (hn2 n) 3;have HN2:=Aside0.mk hn2;clear hn2;have HF:=Aside0.mk hF;have HQ:=Aside0.mk hq;have HM:=Aside0.mk hm;have HP:=Aside0.mk hp;have HG:=Aside0.mk hg;have HGL:=Aside0.mk hgl;have HN:=Aside0.mk hnew;clear h hp hg hgl hq hF hm hnew al c0 c1 f1 y0 y1 y2 y3 hml;subst hW1;unfold qn;go_enter Tryz.func216,Tryz.ntmps216;go_wp2_with fail
 go_quiet ((go_at_call 28;exact Calls.quiet_of_same (hn _)));go_wp2_with fail
 go_region;go_wp2_with fail
 have hqs:=(HQ.out.drewN nq).step HM.out;have hnp:p≠w.heap.size:=by have:=HP.out;omega
 have hF3:=((((((HF.out.drewN nq).set (g:=p) (.inl rfl) (Ah HP.out) 1 (Aa Ab ((m:Int)+1))).set (g:=w.heap.size) (.inr (Ag _)) (Ah HP.out) 0 (Aa Ab x1)).set (g:=w.heap.size) (.inr (Ag _)) (Ah HP.out) 1 (Ac (ba x2))).set (g:=w.heap.size) (.inr (Ag _)) (Ah HP.out) 2 (Aa Ab x3)).set (g:=w.heap.size) (.inr (Ag _)) (Ah HP.out) 3 (Aa Ab x4)).drew;refine bodyPost_ret (results_cell_row rfl _ _ w.heap.size 93 #[Aa Ab x1,Ac (ba x2),Aa Ab x3,Aa Ab x4] (0,0) _ rfl (qe (qh (cs':= #[Aa Ab x1,Ac (ba x2),Aa Ab x3,Aa Ab x4]) (qh (cs':= #[Aa Ab x1,Ac (ba x2),Aa Ab x3,Aa Ab 0]) (qh (cs':= #[Aa Ab x1,Ac (ba x2),Aa Ab 0,Aa Ab 0]) (qh (cs':= #[Aa Ab x1,Ac ⟨#[]⟩,Aa Ab 0,Aa Ab 0]) (HN2.out nq) 0 _ rfl) 1 _ rfl) 2 _ rfl) 3 _ rfl)) Tryz.underlying93 rfl zr) rfl ?_;refine⟨rfl,HW.out.move hF3 ?_ hqs.suf,hF3⟩;rw [qx21,qt _ _ _ _ p hnp,qt _ _ _ _ p hnp,qt _ _ _ _ p hnp,qt _ _ _ _ p hnp];exact hqs.blk
end Go.Proofs.YtocdckniokhbbaaGreatDoor.Syn
