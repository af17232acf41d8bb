import Derived.Test.YtocdckniokhbbaaGreatDoorZkZz
import Derived.Test.YtocdckniokhbbaaGreatDoorZkSynR
import Derived.ChangeArms
import Derived.ChangeOld
import Derived.WideShapes
import Derived.Lib.SmallJoins
set_option linter.unusedVariables false
set_option linter.unusedSimpArgs false
open Option renaming some→Ay
open Go.Value renaming int→Aa,string→Ac,slice→Ad,bool→Ae
open Go.IntKind renaming i64→Ab
open Go.Obj renaming cells→Af
open Array renaming getElem?_eq_some_iff→An
open Nat renaming lt_of_lt_of_le→AW,le_of_lt→Ah,le_refl→Ag
open Go.ByteArray renaming toList_eq→Aq
open Go.Proofs.Tryz renaming prog→Aj
open Go.World renaming setCell→At,cell?_setCell_far→Cg
open Go.RowKit.Below renaming heap_setCell→AX,refl→Ao
open Go.Lib renaming frozen_of_heap→Bd,cell_of_heap→Ai
set_option maxHeartbeats 8000000
set_option maxRecDepth 100000
namespace Go.Proofs.YtocdckniokhbbaaGreatDoor.Syn
open Go.RowKit Go.Shelf YtocdckniokhbbaaGreatDoorW.PrintWords YtocdckniokhbbaaGreatDoorW.PrintLast YtocdckniokhbbaaGreatDoorW.PrintMore CharB SpanA FigD LexA LexF
theorem RepR.get {F:Nat→Prop} {w:World}:∀ {l:List Ex} {xs:List Value} (h:RepR F w l xs) (k:Nat) (e:Ex),l[k]?=some e→ ∃ cs,RepE F w e cs∧ ∀ j,j<7→xs[k*7+j]?=cs[j]?
 | [],xs,h,k,e,he=>by simp at he
 | x :: l,xs,h,0,e,he=>by
  simp only [List.getElem?_cons_zero,Ay.injEq]at he;subst he;simp only [RepR]at h;obtain⟨cs,ys,rfl,h2,h3⟩:=h;exact⟨cs,h2,fun j hj=>by rw [Nat.zero_mul,Nat.zero_add,List.getElem?_append_left (by rw [h2.len];exact hj)]⟩
 | x :: l,xs,h,k+1,e,he=>by
  simp only [List.getElem?_cons_succ]at he;simp only [RepR]at h;obtain⟨cs,ys,rfl,h2,h3⟩:=h;obtain⟨ds,g1,g2⟩:=RepR.get h3 k e he;exact⟨ds,g1,fun j hj=>by rw [List.getElem?_append_right (by rw [h2.len];omega),h2.len,show(k+1)*7+j - 7=k*7+j by omega];exact g2 j hj⟩
theorem RepT.get {F:Nat→Prop} {w:World}:∀ {l:List St} {xs:List Value} (h:RepT F w l xs) (k:Nat) (e:St),l[k]?=some e→ ∃ cs,RepX F w e cs∧ ∀ j,j<5→xs[k*5+j]?=cs[j]?
 | [],xs,h,k,e,he=>by simp at he
 | x :: l,xs,h,0,e,he=>by
  simp only [List.getElem?_cons_zero,Ay.injEq]at he;subst he;simp only [RepT]at h;obtain⟨cs,ys,rfl,h2,h3⟩:=h;exact⟨cs,h2,fun j hj=>by rw [Nat.zero_mul,Nat.zero_add,List.getElem?_append_left (by rw [h2.len];exact hj)]⟩
 | x :: l,xs,h,k+1,e,he=>by
  simp only [List.getElem?_cons_succ]at he;simp only [RepT]at h;obtain⟨cs,ys,rfl,h2,h3⟩:=h;obtain⟨ds,g1,g2⟩:=RepT.get h3 k e he;exact⟨ds,g1,fun j hj=>by rw [List.getElem?_append_right (by rw [h2.len];omega),h2.len,show(k+1)*5+j - 5=k*5+j by omega];exact g2 j hj⟩
theorem Row.exp {F:Nat→Prop} {w:World} {A:Option Addr} {l:List Ex} {xs:List Value} (hR:RepR F w l xs) (hW:Row F w A xs) (k:Nat) (e:Ex) (he:l[k]?=some e) :
  ∃ a op s t v b A1 n1 c1 A2 n2 c2,A=some a∧F a.block∧a.block<w.heap.size∧RepE F w e [Aa Ab op,Ac s,Aa Ab t,Aa Ab v,Ae b,Ad A1 n1 c1,Ad A2 n2 c2] ∧
   w.cell? (a.add (k*7))=some (Aa Ab op)∧w.cell? ⟨(a.add (k*7)).block,(a.add (k*7)).off+1,none⟩=some (Ac s)∧w.cell? ⟨(a.add (k*7)).block,(a.add (k*7)).off+2,none⟩=some (Aa Ab t)∧w.cell? ⟨(a.add (k*7)).block,(a.add (k*7)).off+3,none⟩=some (Aa Ab v)∧w.cell? ⟨(a.add (k*7)).block,(a.add (k*7)).off+4,none⟩=some (Ae b)∧w.cell? ⟨(a.add (k*7)).block,(a.add (k*7)).off+5,none⟩=some (Ad A1 n1 c1)∧w.cell? ⟨(a.add (k*7)).block,(a.add (k*7)).off+6,none⟩=some (Ad A2 n2 c2):=by
 obtain⟨cs,h1,h2⟩:=hR.get k e he;obtain⟨op,s,t,v,b,kids,steps⟩:=e;have h1':=h1;simp only [RepE]at h1;obtain⟨K,S,rfl,⟨A1,c1,_,rfl,_⟩,⟨A2,c2,_,rfl,_⟩⟩:=h1;have g:∀ j u,j<7→([Aa Ab op,Ac (ba s),Aa Ab t,Aa Ab v,Ae b,Ad A1 kids.length c1,Ad A2 steps.length c2]:List Value)[j]?=some u→ ∃ a,A=some a∧F a.block∧a.block<w.heap.size∧w.cell? (a.add (k*7+j))=some u:=fun j u hj hu=>hW (k*7+j) u ((h2 j hj).trans hu);obtain⟨a,rfl,q1,q2,q3⟩:=g 0 _ (by decide) rfl
 have f:∀ j u,j<7→([Aa Ab op,Ac (ba s),Aa Ab t,Aa Ab v,Ae b,Ad A1 kids.length c1,Ad A2 steps.length c2]:List Value)[j]?=some u→w.cell? (a.add (k*7+j))=some u:=fun j u hj hu=>by
  obtain⟨a',e,_,_,h⟩:=g j u hj hu
  cases e
  exact h
 exact⟨a,op,ba s,t,v,b,A1,kids.length,c1,A2,steps.length,c2,rfl,q1,q2,h1',f 0 _ (by decide) rfl,by rw [← qg2 _ _ 1 (by omega)];exact f 1 _ (by decide) rfl,by rw [← qg2 _ _ 2 (by omega)];exact f 2 _ (by decide) rfl,by rw [← qg2 _ _ 3 (by omega)];exact f 3 _ (by decide) rfl,by rw [← qg2 _ _ 4 (by omega)];exact f 4 _ (by decide) rfl,by rw [← qg2 _ _ 5 (by omega)];exact f 5 _ (by decide) rfl,by rw [← qg2 _ _ 6 (by omega)];exact f 6 _ (by decide) rfl⟩
theorem Row.st {F:Nat→Prop} {w:World} {A:Option Addr} {l:List St} {xs:List Value} (hR:RepT F w l xs) (hW:Row F w A xs) (k:Nat) (e:St) (he:l[k]?=some e) :
  ∃ a x y s b A1 n1 c1,A=some a∧F a.block∧a.block<w.heap.size∧RepX F w e [Aa Ab x,Aa Ab y,Ac s,Ae b,Ad A1 n1 c1] ∧
   w.cell? (a.add (k*5))=some (Aa Ab x)∧w.cell? ⟨(a.add (k*5)).block,(a.add (k*5)).off+1,none⟩=some (Aa Ab y)∧w.cell? ⟨(a.add (k*5)).block,(a.add (k*5)).off+2,none⟩=some (Ac s)∧w.cell? ⟨(a.add (k*5)).block,(a.add (k*5)).off+3,none⟩=some (Ae b)∧w.cell? ⟨(a.add (k*5)).block,(a.add (k*5)).off+4,none⟩=some (Ad A1 n1 c1):=by
 obtain⟨cs,h1,h2⟩:=hR.get k e he;obtain⟨x,y,s,b,preds⟩:=e;have h1':=h1;simp only [RepX]at h1;obtain⟨K,rfl,A1,c1,_,rfl,_⟩:=h1;have g:∀ j u,j<5→([Aa Ab x,Aa Ab y,Ac (ba s),Ae b,Ad A1 preds.length c1]:List Value)[j]?=some u→ ∃ a,A=some a∧F a.block∧a.block<w.heap.size∧w.cell? (a.add (k*5+j))=some u:=fun j u hj hu=>hW (k*5+j) u ((h2 j hj).trans hu);obtain⟨a,rfl,q1,q2,q3⟩:=g 0 _ (by decide) rfl
 have f:∀ j u,j<5→([Aa Ab x,Aa Ab y,Ac (ba s),Ae b,Ad A1 preds.length c1]:List Value)[j]?=some u→w.cell? (a.add (k*5+j))=some u:=fun j u hj hu=>by
  obtain⟨a',e,_,_,h⟩:=g j u hj hu
  cases e
  exact h
 exact⟨a,x,y,ba s,b,A1,preds.length,c1,rfl,q1,q2,h1',f 0 _ (by decide) rfl,by rw [← qg2 _ _ 1 (by omega)];exact f 1 _ (by decide) rfl,by rw [← qg2 _ _ 2 (by omega)];exact f 2 _ (by decide) rfl,by rw [← qg2 _ _ 3 (by omega)];exact f 3 _ (by decide) rfl,by rw [← qg2 _ _ 4 (by omega)];exact f 4 _ (by decide) rfl⟩
theorem Row.exp0 {F:Nat→Prop} {w:World} {A:Option Addr} {l:List Ex} {xs:List Value} (hR:RepR F w l xs) (hW:Row F w A xs) (e:Ex) (he:l[0]?=some e) :
  ∃ a op s t v b A1 n1 c1 A2 n2 c2,A=some a∧F a.block∧a.block<w.heap.size∧RepE F w e [Aa Ab op,Ac s,Aa Ab t,Aa Ab v,Ae b,Ad A1 n1 c1,Ad A2 n2 c2]∧w.cell? a=some (Aa Ab op)∧w.cell? ⟨a.block,a.off+1,none⟩=some (Ac s)∧w.cell? ⟨a.block,a.off+2,none⟩=some (Aa Ab t)∧w.cell? ⟨a.block,a.off+3,none⟩=some (Aa Ab v)∧w.cell? ⟨a.block,a.off+4,none⟩=some (Ae b)∧w.cell? ⟨a.block,a.off+5,none⟩=some (Ad A1 n1 c1)∧w.cell? ⟨a.block,a.off+6,none⟩=some (Ad A2 n2 c2):=by
 obtain⟨a,op,s,t,v,b,A1,n1,c1,A2,n2,c2,h1,h2,h3,h4,x0,x1,x2,x3,x4,x5,x6⟩:=Row.exp hR hW 0 e he;exact⟨a,op,s,t,v,b,A1,n1,c1,A2,n2,c2,h1,h2,h3,h4,x0,x1,x2,x3,x4,x5,x6⟩
theorem Row.exp1 {F:Nat→Prop} {w:World} {A:Option Addr} {l:List Ex} {xs:List Value} (hR:RepR F w l xs) (hW:Row F w A xs) (e:Ex) (he:l[1]?=some e) :
  ∃ a op s t v b A1 n1 c1 A2 n2 c2,A=some a∧F a.block∧a.block<w.heap.size∧RepE F w e [Aa Ab op,Ac s,Aa Ab t,Aa Ab v,Ae b,Ad A1 n1 c1,Ad A2 n2 c2]∧w.cell? ⟨a.block,a.off+7,none⟩=some (Aa Ab op)∧w.cell? ⟨a.block,a.off+8,none⟩=some (Ac s)∧w.cell? ⟨a.block,a.off+9,none⟩=some (Aa Ab t)∧w.cell? ⟨a.block,a.off+10,none⟩=some (Aa Ab v)∧w.cell? ⟨a.block,a.off+11,none⟩=some (Ae b)∧w.cell? ⟨a.block,a.off+12,none⟩=some (Ad A1 n1 c1)∧w.cell? ⟨a.block,a.off+13,none⟩=some (Ad A2 n2 c2):=by
 obtain⟨a,op,s,t,v,b,A1,n1,c1,A2,n2,c2,h1,h2,h3,h4,x0,x1,x2,x3,x4,x5,x6⟩:=Row.exp hR hW 1 e he;exact⟨a,op,s,t,v,b,A1,n1,c1,A2,n2,c2,h1,h2,h3,h4,x0,x1,x2,x3,x4,x5,x6⟩
end Go.Proofs.YtocdckniokhbbaaGreatDoor.Syn
namespace Go.Proofs.YtocdckniokhbbaaGreatDoor.Syn
open Go.RowKit Go.Shelf Go.ChangeShapes Go.WideShapes YtocdckniokhbbaaGreatDoorW.PrintWords YtocdckniokhbbaaGreatDoorW.PrintLast YtocdckniokhbbaaGreatDoorW.PrintMore CharB SpanA FigD LexA LexF
def qy11 (n:Int):Prop:=(Lit.int .i64 n).wf=true
mutual
def wfE:Ex→Prop
 | .mk op s v t abs kids steps=>qy11 op∧qy11 v∧qy11 t∧s.length≤maxLen∧kids.length≤maxLen∧steps.length≤maxLen∧wfL kids∧wfS steps
def wfL:List Ex→Prop
 | []=>True
 | e :: l=>wfE e∧wfL l
def wfX:St→Prop
 | .mk axis kind name has preds=>qy11 axis∧qy11 kind∧name.length≤maxLen∧preds.length≤maxLen∧wfL preds
def wfS:List St→Prop
 | []=>True
 | e :: l=>wfX e∧wfS l
end
end Go.Proofs.YtocdckniokhbbaaGreatDoor.Syn
namespace Go.Proofs.YtocdckniokhbbaaGreatDoor.Syn
open Go.RowKit Go.Shelf YtocdckniokhbbaaGreatDoorW.PrintWords YtocdckniokhbbaaGreatDoorW.PrintLast YtocdckniokhbbaaGreatDoorW.PrintMore CharB SpanA FigD LexA LexF
structure PB (p:Nat) (A:Option Addr) (cap:Nat) (l r:List Wd) (W:World):Prop where
 blk:W.heap[p]?=some (Af #[Ad A l.length cap,Aa Ab ((l.length - r.length:Nat):Int)] 62 (0,0))
 suf:∃ u,l=u ++ r
 row:l= []∨ ∃ g,A=some ⟨g,0,none⟩∧g≠p∧g<W.heap.size∧ ∀ j u,(wcs l)[j]?=some u→W.cell? ⟨g,j,none⟩=some u
 few:l.length≤1000
theorem PB.lt {p:Nat} {A:Option Addr} {cap:Nat} {l r:List Wd} {W:World} (h:PB p A cap l r W):p<W.heap.size:=(An.1 h.blk).1
theorem PB.below {p:Nat} {A:Option Addr} {cap:Nat} {l r:List Wd} {W W':World} (h:PB p A cap l r W) (hb:Below W.heap.size W W'):PB p A cap l r W':=by
 refine⟨(hb.block p h.lt).trans h.blk,h.suf,?_,h.few⟩
 rcases h.row with h1 | ⟨g,h1,h2,h3,h4⟩
 ·exact .inl h1
 ·exact .inr ⟨g,h1,h2,AW h3 hb.size,fun j u hu=>by rw [hb.cell (p:=⟨g,j,none⟩) h3];exact h4 j u hu⟩
theorem PB.drew {p:Nat} {A:Option Addr} {cap:Nat} {l r:List Wd} {W:World} (h:PB p A cap l r W):PB p A cap l r W.drew:=⟨h.blk,h.suf,h.row,h.few⟩
theorem PB.word {p:Nat} {A:Option Addr} {cap:Nat} {l r:List Wd} {x:Wd} {W:World} (h:PB p A cap l (x :: r) W):∃ g,A=some ⟨g,0,none⟩∧g≠p∧g<W.heap.size∧l.length - (x :: r).length<l.length ∧
  W.cell? ⟨g,(l.length - (x :: r).length)*4,none⟩=some (Aa Ab x.1)∧W.cell? ⟨g,(l.length - (x :: r).length)*4+1,none⟩=some (Ac (ba x.2.1)) ∧
  W.cell? ⟨g,(l.length - (x :: r).length)*4+2,none⟩=some (Aa Ab x.2.2.1)∧W.cell? ⟨g,(l.length - (x :: r).length)*4+3,none⟩=some (Aa Ab x.2.2.2):=by
 obtain⟨u,hu⟩:=h.suf;have hl:l.length=u.length+(r.length+1):=by rw [hu];simp
 have hk:l.length - (x :: r).length=u.length:=by rw [hl];simp
 have he:∀ i v,(wc x)[i]?=some v→(wcs l)[u.length*4+i]?=some v:=by
  intro i v hv;have hi:i<4:=by have:=(List.getElem?_eq_some_iff.1 hv).1;simpa [wc]using this
  rw [hu,qi7,List.getElem?_append_right (by rw [qd5];omega),qd5,Nat.add_sub_cancel_left];show(wcs ([x] ++ r))[i]?=_;rw [qi7,qv8,List.getElem?_append_left (by simp [wc];omega)];exact hv
 rcases h.row with h1 | ⟨g,h1,h2,h3,h4⟩
 ·rw [h1]at hl;simp at hl
 ·rw [hk];exact⟨g,h1,h2,h3,by omega,h4 _ _ (he 0 _ rfl),h4 _ _ (he 1 _ rfl),h4 _ _ (he 2 _ rfl),h4 _ _ (he 3 _ rfl)⟩
def qv (p:Nat):Value:= .pointer (some ⟨p,0,none⟩)
theorem ba_beq (a b:List UInt8):((ba a).toList == (ba b).toList)=(a == b):=by rw [Aq,Aq];rfl
theorem qc3 (p:Nat) (A:Option Addr) (cap:Nat) (l r:List Wd) (k:Int) (s:List UInt8) (w:World) (h:PB p A cap l r w) :
  Calls Aj 133 #[qv p,Aa Ab k,Ac (ba s)] w fun e w'=>e= .returned (Ae (isW k s r))∧ ∃ n,w'=w.drewN n:=by
 have c0:w.cell? ⟨p,0,none⟩=some (Ad A l.length cap):=by rw [qb1 h.blk];rfl
 have c1:w.cell? ⟨p,1,none⟩=some (Aa Ab ((l.length - r.length:Nat):Int)):=by rw [qb1 h.blk];rfl
 have hf:=h.few
 cases r with
 | nil=>
  have hd:decide (l.length - ([]:List Wd).length<l.length)=false:=by simp
  have he:isW k s []=false:=rfl;rw [he];generalize l.length - ([]:List Wd).length=m at *;clear h hf he;unfold qv;go_enter Tryz.func133,Tryz.ntmps133;go_wp2_with fail
  go_quiet (fail);go_wp2_with fail
  go_ret;exact⟨rfl,_,rfl⟩
 | cons x r=>
  obtain⟨g,rfl,hg,hgl,hm,x0,x1,_,_⟩:=h.word;have hd:decide (l.length - (x :: r).length<l.length)=true:=by simpa using hm
  have i0:(0:Int)≤((l.length - (x :: r).length:Nat):Int):=by omega
  have i1:((l.length - (x :: r).length:Nat):Int)<(l.length:Int):=by omega
  generalize l.length - (x :: r).length=m at *;by_cases hk:x.1=k
  ·subst hk;have hs:=ba_beq x.2.1 s;have hq:isW x.1 s (x :: r)=(x.2.1 == s):=by simp [isW]
   rw [hq];clear h hf hm hg hgl hq;unfold qv;go_enter Tryz.func133,Tryz.ntmps133;go_wp2_with fail
   go_quiet (fail);go_wp2_with fail
   go_ret;exact⟨rfl,_,rfl⟩
  ·have hq:isW k s (x :: r)=false:=by simp [isW,hk]
   rw [hq];have hk2:(x.1 == k)=false:=by simpa using hk
   clear h hf hm hg hgl hq hk;unfold qv;go_enter Tryz.func133,Tryz.ntmps133;go_wp2_with fail
   go_quiet (fail);go_wp2_with fail
   go_ret;exact⟨rfl,_,rfl⟩
theorem PB.drewN {p:Nat} {A:Option Addr} {cap:Nat} {l r:List Wd} {W:World} (h:PB p A cap l r W) (n:Nat):PB p A cap l r (W.drewN n):=⟨h.blk,h.suf,h.row,h.few⟩
theorem PB.step {p:Nat} {A:Option Addr} {cap:Nat} {l r:List Wd} {x:Wd} {W:World} {m:Nat} (h:PB p A cap l (x :: r) W) (hm:l.length - (x :: r).length=m):PB p A cap l r (W.setCell ⟨p,1,none⟩ (Aa Ab ((m:Int)+1))):=by
 obtain⟨u,hu⟩:=h.suf;have hl:l.length=u.length+(r.length+1):=by rw [hu];simp
 refine⟨?_,⟨u ++ [x],by rw [hu];simp⟩,?_,h.few⟩
 ·have:=qu10 h.blk 1 (Aa Ab ((m:Int)+1));rw [this];have e:((m:Int)+1)=((l.length - r.length:Nat):Int):=by rw [← hm,hl];simp;omega
  rw [e];rfl
 ·rcases h.row with h1 | ⟨g,h1,h2,h3,h4⟩
  ·exact .inl h1
  ·refine .inr ⟨g,h1,h2,by simpa [At]using h3,fun j v hv=>?_⟩;rw [World.cell?_of_block (w:=W) (AX W ⟨p,1,none⟩ _ g h2)];exact h4 j v hv
theorem qz1 (p:Nat) (A:Option Addr) (cap:Nat) (l r:List Wd) (k:Int) (s:List UInt8) (w:World) (h:PB p A cap l r w) (ht:takeW k s r=none) :
  Calls Aj 98 #[qv p,Aa Ab k,Ac (ba s)] w fun e w'=>e= .returned (Ae false)∧ ∃ n,w'=w.drewN n:=by
 have hc:=qc3 p A cap l r k s w h;rw [take_none.1 ht]at hc;clear h ht;unfold qv at *;go_enter Tryz.func98,Tryz.ntmps98;go_wp2_with fail
 refine hc.mono ?_;rintro e w1 ⟨rfl,n,rfl⟩;clear hc;go_wp2_with fail
 go_ret;exact⟨rfl,n,rfl⟩
theorem qh2 (p:Nat) (A:Option Addr) (cap:Nat) (l r r1:List Wd) (k:Int) (s:List UInt8) (w:World) (h:PB p A cap l r w) (ht:takeW k s r=some r1) :
  Calls Aj 98 #[qv p,Aa Ab k,Ac (ba s)] w fun e w'=>e= .returned (Ae true)∧PB p A cap l r1 w'∧Fr p w.heap.size w w':=by
 have hc:=qc3 p A cap l r k s w h;have hi:isW k s r=true:=by rw [← qf18,ht];rfl
 obtain⟨x,rfl,_,_⟩:=qg1 ht;rw [hi]at hc;obtain⟨m,hm⟩:∃ m,l.length - (x :: r1).length=m:=⟨_,rfl⟩;have hml:m≤1000:=by have:=h.few;omega
 have H:=Aside0.mk h;have HM:=Aside0.mk hm;have c1:w.cell? ⟨p,1,none⟩=some (Aa Ab (m:Int)):=by rw [qb1 h.blk,← hm];rfl
 have f1:w.frozen? ⟨p,1,none⟩=false:=Bd h.blk 1;clear h ht hi hm;unfold qv at *;go_enter Tryz.func98,Tryz.ntmps98;go_wp2_with fail
 refine hc.mono ?_;rintro e w1 ⟨rfl,n,rfl⟩;have d1:(w.drewN n).cell? ⟨p,1,none⟩=some (Aa Ab (m:Int)):=c1;have g1:(w.drewN n).frozen? ⟨p,1,none⟩=false:=f1;clear hc c1 f1;go_wp2_with fail
 go_ret;exact⟨rfl,(H.out.drewN n).step HM.out,((Fr.refl p _ w).drewN n).set (.inl rfl) (Ah H.out.lt) 1 _⟩
def qa2:Ending:= .panicked [{v:= .iface 58 (.agg #[]),recovered:=false}]
theorem qx2 (w:World):Calls Aj 28 #[Ae true] w fun e w'=>e= .returned (.tuple #[])∧w'=w:=by
 go_enter Tryz.func28,Tryz.ntmps28;go_wp2_with fail
 first | go_end0 | refine bodyPost_ret (results_none rfl _ _ _) rfl ?_
 exact⟨rfl,rfl⟩
theorem qk9 (w:World):Calls Aj 28 #[Ae false] w fun e w'=>e=qa2∧w'=w:=by
 go_enter Tryz.func28,Tryz.ntmps28;go_wp2_with fail
 exact⟨rfl,rfl,rfl⟩
end Go.Proofs.YtocdckniokhbbaaGreatDoor.Syn
namespace Go.Proofs.YtocdckniokhbbaaGreatDoor.Syn
open Go.RowKit Go.Shelf YtocdckniokhbbaaGreatDoorW.PrintWords YtocdckniokhbbaaGreatDoorW.PrintLast YtocdckniokhbbaaGreatDoorW.PrintMore CharB SpanA FigD LexA LexF
theorem qd4 (p:Nat) (A:Option Addr) (cap:Nat) (l r:List Wd) (k:Int) (s:List UInt8) (w:World) (h:PB p A cap l r w) (ht:takeW k s r=none) :
  Calls Aj 217 #[qv p,Aa Ab k,Ac (ba s)] w fun e w'=>e=qa2∧ ∃ n,w'=w.drewN n:=by
 have hc:=qz1 p A cap l r k s w h ht;have hn:=fun W=>qk9 W;clear h ht;unfold qv at *;go_enter Tryz.func217,Tryz.ntmps217;go_wp2_with fail
 refine hc.mono ?_;rintro e w1 ⟨rfl,n,rfl⟩;clear hc;go_wp2_with fail
 refine(hn _).mono ?_;rintro e w1 ⟨rfl,rfl⟩;exact⟨rfl,rfl,n,rfl⟩
theorem qx1 (p:Nat) (A:Option Addr) (cap:Nat) (l r r1:List Wd) (k:Int) (s:List UInt8) (w:World) (h:PB p A cap l r w) (ht:takeW k s r=some r1) :
  Calls Aj 217 #[qv p,Aa Ab k,Ac (ba s)] w fun e w'=>e= .returned (.tuple #[])∧PB p A cap l r1 w'∧Fr p w.heap.size w w':=by
 have hc:=qh2 p A cap l r r1 k s w h ht;have hn:=fun W=>qx2 W;clear h ht;unfold qv at *;go_enter Tryz.func217,Tryz.ntmps217;go_wp2_with fail
 refine hc.mono ?_;rintro e w1 ⟨rfl,h1,h2⟩;have H1:=Aside0.mk h1;have H2:=Aside0.mk h2;clear hc h1 h2;go_wp2_with fail
 refine(hn _).mono ?_;rintro e w2 ⟨rfl,rfl⟩;go_wp2_with fail
 first | go_end0 | refine bodyPost_ret (results_none rfl _ _ _) rfl ?_
 exact⟨rfl,H1.out,H2.out⟩
theorem qw2 (p:Nat) (A:Option Addr) (cap:Nat) (l r:List Wd) (k:Int) (w:World) (h:PB p A cap l r w) :
  Calls Aj 205 #[qv p,Aa Ab k] w fun e w'=>e= .returned (Ae (ofW k r))∧ ∃ n,w'=w.drewN n:=by
 have c0:w.cell? ⟨p,0,none⟩=some (Ad A l.length cap):=by rw [qb1 h.blk];rfl
 have c1:w.cell? ⟨p,1,none⟩=some (Aa Ab ((l.length - r.length:Nat):Int)):=by rw [qb1 h.blk];rfl
 have hf:=h.few
 cases r with
 | nil=>
  have hd:decide (l.length - ([]:List Wd).length<l.length)=false:=by simp
  have he:ofW k []=false:=rfl;rw [he];generalize l.length - ([]:List Wd).length=m at *;clear h hf he;unfold qv;go_enter Tryz.func205,Tryz.ntmps205;go_wp2_with fail
  go_quiet (fail);go_wp2_with fail
  go_ret;exact⟨rfl,_,rfl⟩
 | cons x r=>
  obtain⟨g,rfl,hg,hgl,hm,x0,x1,_,_⟩:=h.word;have hd:decide (l.length - (x :: r).length<l.length)=true:=by simpa using hm
  have i0:(0:Int)≤((l.length - (x :: r).length:Nat):Int):=by omega
  have i1:((l.length - (x :: r).length:Nat):Int)<(l.length:Int):=by omega
  generalize l.length - (x :: r).length=m at *;have hq:ofW k (x :: r)=(x.1 == k):=rfl;rw [hq];clear h hf hm hg hgl hq x1;unfold qv;go_enter Tryz.func205,Tryz.ntmps205;go_wp2_with fail
  go_quiet (fail);go_wp2_with fail
  go_ret;exact⟨rfl,_,rfl⟩
theorem qr9 (p:Nat) (A:Option Addr) (cap:Nat) (l r:List Wd) (w:World) (h:PB p A cap l r w) :
  Calls Aj 191 #[qv p] w fun e w'=>e= .returned (Ae (qf2 r))∧ ∃ n,w'=w.drewN n:=by
 unfold qf2;generalize h0:ofW 10 r=b0;generalize h1:ofW 8 r=b1;generalize h2:ofW 9 r=b2;generalize h3:ofW 6 r=b3;generalize h4:isW 1 [40] r=b4;have H0:Aside0 (∀ n,Calls Aj 205 #[qv p,Aa Ab 10] (w.drewN n) fun e w'=>e= .returned (Ae b0)∧ ∃ m,w'=(w.drewN n).drewN m):=⟨fun n=>by have:=qw2 p A cap l r 10 _ (h.drewN n);rwa [h0]at this⟩;have H1:Aside0 (∀ n,Calls Aj 205 #[qv p,Aa Ab 8] (w.drewN n) fun e w'=>e= .returned (Ae b1)∧ ∃ m,w'=(w.drewN n).drewN m):=⟨fun n=>by have:=qw2 p A cap l r 8 _ (h.drewN n);rwa [h1]at this⟩;have H2:Aside0 (∀ n,Calls Aj 205 #[qv p,Aa Ab 9] (w.drewN n) fun e w'=>e= .returned (Ae b2)∧ ∃ m,w'=(w.drewN n).drewN m):=⟨fun n=>by have:=qw2 p A cap l r 9 _ (h.drewN n);rwa [h2]at this⟩;have H3:Aside0 (∀ n,Calls Aj 205 #[qv p,Aa Ab 6] (w.drewN n) fun e w'=>e= .returned (Ae b3)∧ ∃ m,w'=(w.drewN n).drewN m):=⟨fun n=>by have:=qw2 p A cap l r 6 _ (h.drewN n);rwa [h3]at this⟩;have H4:Aside0 (∀ n,Calls Aj 133 #[qv p,Aa Ab 1,Ac ⟨#[40]⟩] (w.drewN n) fun e w'=>e= .returned (Ae b4)∧ ∃ m,w'=(w.drewN n).drewN m):=⟨fun n=>by have:=qc3 p A cap l r 1 [40] _ (h.drewN n);rwa [h4]at this⟩;clear h h0 h1 h2 h3 h4;unfold qv at *;go_enter Tryz.func191,Tryz.ntmps191;go_wp2_with fail
 refine(H0.out 0).mono ?_;rintro e w0 ⟨rfl,n0,rfl⟩
 cases b0 with
 | true=>
  go_wp2_with fail
  go_ret;exact⟨rfl,_,rfl⟩
 | false=>
  go_wp2_with fail
  refine(H1.out _).mono ?_;rintro e w1 ⟨rfl,n1,rfl⟩
  cases b1 with
  | true=>
   go_wp2_with fail
   go_ret;exact⟨rfl,_,rfl⟩
  | false=>
   go_wp2_with fail
   refine(H2.out _).mono ?_;rintro e w2 ⟨rfl,n2,rfl⟩
   cases b2 with
   | true=>
    go_wp2_with fail
    go_ret;exact⟨rfl,_,rfl⟩
   | false=>
    go_wp2_with fail
    refine(H3.out _).mono ?_;rintro e w3 ⟨rfl,n3,rfl⟩
    cases b3 with
    | true=>
     go_wp2_with fail
     go_ret;exact⟨rfl,_,rfl⟩
    | false=>
     go_wp2_with fail
     refine(H4.out _).mono ?_;rintro e w4 ⟨rfl,n4,rfl⟩;go_wp2_with fail
     go_ret;exact⟨rfl,_,rfl⟩
theorem qm10 (p:Nat) (A:Option Addr) (cap:Nat) (l r:List Wd) (w:World) (h:PB p A cap l r w) :
  Calls Aj 206 #[qv p] w fun e w'=>e= .returned (Ae (qn10 r))∧ ∃ n,w'=w.drewN n:=by
 unfold qn10;generalize h0:ofW 7 r=b0;generalize h1:ofW 2 r=b1;generalize h2:ofW 3 r=b2;generalize h3:ofW 4 r=b3;generalize h4:isW 1 [46] r=b4;generalize h5:isW 1 [46,46] r=b5;generalize h6:isW 1 [64] r=b6;have H0:Aside0 (∀ n,Calls Aj 205 #[qv p,Aa Ab 7] (w.drewN n) fun e w'=>e= .returned (Ae b0)∧ ∃ m,w'=(w.drewN n).drewN m):=⟨fun n=>by have:=qw2 p A cap l r 7 _ (h.drewN n);rwa [h0]at this⟩;have H1:Aside0 (∀ n,Calls Aj 205 #[qv p,Aa Ab 2] (w.drewN n) fun e w'=>e= .returned (Ae b1)∧ ∃ m,w'=(w.drewN n).drewN m):=⟨fun n=>by have:=qw2 p A cap l r 2 _ (h.drewN n);rwa [h1]at this⟩;have H2:Aside0 (∀ n,Calls Aj 205 #[qv p,Aa Ab 3] (w.drewN n) fun e w'=>e= .returned (Ae b2)∧ ∃ m,w'=(w.drewN n).drewN m):=⟨fun n=>by have:=qw2 p A cap l r 3 _ (h.drewN n);rwa [h2]at this⟩;have H3:Aside0 (∀ n,Calls Aj 205 #[qv p,Aa Ab 4] (w.drewN n) fun e w'=>e= .returned (Ae b3)∧ ∃ m,w'=(w.drewN n).drewN m):=⟨fun n=>by have:=qw2 p A cap l r 4 _ (h.drewN n);rwa [h3]at this⟩;have H4:Aside0 (∀ n,Calls Aj 133 #[qv p,Aa Ab 1,Ac ⟨#[46]⟩] (w.drewN n) fun e w'=>e= .returned (Ae b4)∧ ∃ m,w'=(w.drewN n).drewN m):=⟨fun n=>by have:=qc3 p A cap l r 1 [46] _ (h.drewN n);rwa [h4]at this⟩;have H5:Aside0 (∀ n,Calls Aj 133 #[qv p,Aa Ab 1,Ac ⟨#[46,46]⟩] (w.drewN n) fun e w'=>e= .returned (Ae b5)∧ ∃ m,w'=(w.drewN n).drewN m):=⟨fun n=>by have:=qc3 p A cap l r 1 [46,46] _ (h.drewN n);rwa [h5]at this⟩;have H6:Aside0 (∀ n,Calls Aj 133 #[qv p,Aa Ab 1,Ac ⟨#[64]⟩] (w.drewN n) fun e w'=>e= .returned (Ae b6)∧ ∃ m,w'=(w.drewN n).drewN m):=⟨fun n=>by have:=qc3 p A cap l r 1 [64] _ (h.drewN n);rwa [h6]at this⟩;clear h h0 h1 h2 h3 h4 h5 h6;unfold qv at *;go_enter Tryz.func206,Tryz.ntmps206;go_wp2_with fail
 refine(H0.out 0).mono ?_;rintro e w0 ⟨rfl,n0,rfl⟩
 cases b0 with
 | true=>
  go_wp2_with fail
  go_ret;exact⟨rfl,_,rfl⟩
 | false=>
  go_wp2_with fail
  refine(H1.out _).mono ?_;rintro e w1 ⟨rfl,n1,rfl⟩
  cases b1 with
  | true=>
   go_wp2_with fail
   go_ret;exact⟨rfl,_,rfl⟩
  | false=>
   go_wp2_with fail
   refine(H2.out _).mono ?_;rintro e w2 ⟨rfl,n2,rfl⟩
   cases b2 with
   | true=>
    go_wp2_with fail
    go_ret;exact⟨rfl,_,rfl⟩
   | false=>
    go_wp2_with fail
    refine(H3.out _).mono ?_;rintro e w3 ⟨rfl,n3,rfl⟩
    cases b3 with
    | true=>
     go_wp2_with fail
     go_ret;exact⟨rfl,_,rfl⟩
    | false=>
     go_wp2_with fail
     refine(H4.out _).mono ?_;rintro e w4 ⟨rfl,n4,rfl⟩
     cases b4 with
     | true=>
      go_wp2_with fail
      go_ret;exact⟨rfl,_,rfl⟩
     | false=>
      go_wp2_with fail
      refine(H5.out _).mono ?_;rintro e w5 ⟨rfl,n5,rfl⟩
      cases b5 with
      | true=>
       go_wp2_with fail
       go_ret;exact⟨rfl,_,rfl⟩
      | false=>
       go_wp2_with fail
       refine(H6.out _).mono ?_;rintro e w6 ⟨rfl,n6,rfl⟩;go_wp2_with fail
       go_ret;exact⟨rfl,_,rfl⟩
end Go.Proofs.YtocdckniokhbbaaGreatDoor.Syn
namespace Go.Proofs.YtocdckniokhbbaaGreatDoor.Syn
open Go.RowKit Go.Shelf YtocdckniokhbbaaGreatDoorW.PrintWords YtocdckniokhbbaaGreatDoorW.PrintLast YtocdckniokhbbaaGreatDoorW.PrintMore CharB SpanA FigD LexA LexF
theorem qo17 (p:Nat) (A:Option Addr) (cap:Nat) (l:List Wd) (w:World) (h:PB p A cap l [] w) :
  Calls Aj 216 #[qv p] w fun e w'=>e=qa2∧Fr p w.heap.size w w':=by
 have c0:w.cell? ⟨p,0,none⟩=some (Ad A l.length cap):=by rw [qb1 h.blk];rfl
 have c1:w.cell? ⟨p,1,none⟩=some (Aa Ab ((l.length - ([]:List Wd).length:Nat):Int)):=by rw [qb1 h.blk];rfl
 have hn:∀ W,Calls Aj 28 #[Ae false] W fun e w'=>(e=qa2∧w'=W)∨(e= .returned (.tuple #[])∧w'=W∧Aside0 False):=fun W=>(qk9 W).mono fun _ _ h=> .inl h;have hd:decide (l.length - ([]:List Wd).length<l.length)=false:=by simp
 generalize l.length - ([]:List Wd).length=m at *;have hp:=h.lt;have F0:=Aside0.mk (((Fr.refl p w.heap.size w).alloc (Ag _) (Ah hp) (Af #[Aa Ab 0,Ac ⟨#[]⟩,Aa Ab 0,Aa Ab 0] 93)).drew);have d0:=(World.cell?_alloc_lt w (Af #[Aa Ab 0,Ac ⟨#[]⟩,Aa Ab 0,Aa Ab 0] 93) ⟨p,0,none⟩ hp).trans c0;have d1:=(World.cell?_alloc_lt w (Af #[Aa Ab 0,Ac ⟨#[]⟩,Aa Ab 0,Aa Ab 0] 93) ⟨p,1,none⟩ hp).trans c1;clear h hp c0 c1;unfold qv;go_enter Tryz.func216,Tryz.ntmps216;go_wp2_with fail
 go_region_with (first | (go_at_call 28;refine(hn _).mono ?_;rintro e w1 (⟨rfl,rfl⟩ | ⟨rfl,rfl,hF⟩);exact⟨rfl,rfl,F0.out⟩))
 all_goals exact hF.out.elim
theorem qz (W:World) (b j:Nat) (v:Value) (k:Nat) (h:k≠b):(W.setCell ⟨b,j,none⟩ v).heap[k]?=W.heap[k]? :=AX W ⟨b,j,none⟩ v k h
theorem W_of_fr {p g:Nat} {w W:World} (hf:Fr p w.heap.size w W) (h2:g≠p) (h3:g<w.heap.size):W.heap[g]?=w.heap[g]? :=by
 rcases Nat.lt_or_gt_of_ne h2 with h | h
 ·exact hf.1.block g h
 ·exact hf.2 g h h3
theorem qj20 (W:World) (k:Nat):W.drew.heap[k]?=W.heap[k]? :=rfl
theorem PB.move {p:Nat} {A:Option Addr} {cap:Nat} {l r r':List Wd} {w W:World} (h:PB p A cap l r w) (hf:Fr p w.heap.size w W) (hb:W.heap[p]?=some (Af #[Ad A l.length cap,Aa Ab ((l.length - r'.length:Nat):Int)] 62 (0,0))) (hs:∃ u,l=u ++ r'):PB p A cap l r' W:=by
 refine⟨hb,hs,?_,h.few⟩
 rcases h.row with h1 | ⟨g,h1,h2,h3,h4⟩
 ·exact .inl h1
 ·exact .inr ⟨g,h1,h2,AW h3 hf.1.size,fun j u hu=>by rw [World.cell?_of_block (w:=w) (W_of_fr hf h2 h3)];exact h4 j u hu⟩
theorem qu1 (p:Nat) (A:Option Addr) (cap:Nat) (l r:List Wd) (x:Wd) (w:World) (h:PB p A cap l (x :: r) w) :
  Calls Aj 216 #[qv p] w fun e w'=>e= .returned (.agg #[Aa Ab x.1,Ac (ba x.2.1),Aa Ab x.2.2.1,Aa Ab x.2.2.2])∧PB p A cap l r w'∧Fr p w.heap.size w w':=by
 have HW:=Aside0.mk h;obtain⟨x1,x2,x3,x4⟩:=x;have hn:=fun W=>qx2 W;obtain⟨g,hA,hg,hgl,hml,y0,y1,y2,y3⟩:=h.word;subst hA;obtain⟨m,hm⟩:∃ m,l.length - ((x1,x2,x3,x4) :: r).length=m:=⟨_,rfl⟩;rw [hm]at y0 y1 y2 y3 hml;have hml2:m≤1000:=by have:=h.few;omega
 have c0:w.cell? ⟨p,0,none⟩=some (Ad (some ⟨g,0,none⟩) l.length cap):=by rw [qb1 h.blk];rfl
 have c1:w.cell? ⟨p,1,none⟩=some (Aa Ab (m:Int)):=by rw [qb1 h.blk,hm];rfl
 have f1:w.frozen? ⟨p,1,none⟩=false:=Bd h.blk 1;have hd:decide (m<l.length)=true:=by simpa using hml
 have i0:(0:Int)≤(m:Int):=by omega
 have i1:(m:Int)<(l.length:Int):=by omega
 have hp:=h.lt;obtain⟨W1,hW1⟩:∃ W,W=w.alloc (Af #[Aa Ab 0,Ac ⟨#[]⟩,Aa Ab 0,Aa Ab 0] 93):=⟨_,rfl⟩;have al:∀ (a:Addr) (u:Value),a.block<w.heap.size→w.cell? a=some u→W1.cell? a=some u:=fun a u ha hu=>by rw [hW1];exact(World.cell?_alloc_lt w _ a ha).trans hu
 have d0:=al _ _ hp c0;have d1:=al _ _ hp c1;have hq:=(h.below (W':=W1) (by rw [hW1];exact(Ao _ _).alloc (Ag _) _));have g1:W1.frozen? ⟨p,1,none⟩=false:=Bd hq.blk 1;have e0:=al _ _ hgl y0;have e1:=al _ _ hgl y1;have e2:=al _ _ hgl y2;have e3:=al _ _ hgl y3;have hF:=((Fr.refl p w.heap.size w).alloc (Ag _) (Ah hp) (Af #[Aa Ab 0,Ac ⟨#[]⟩,Aa Ab 0,Aa Ab 0] 93));rw [← hW1]at hF;have hnew:=qr w (Af #[Aa Ab 0,Ac ⟨#[]⟩,Aa Ab 0,Aa Ab 0] 93);rw [← hW1]at hnew;have k0:∀ n,((W1.drewN n).setCell ⟨p,1,none⟩ (Aa Ab ((m:Int)+1))).cell? ⟨g,m*4,none⟩=some (Aa Ab x1):=fun n=>(Cg (W1.drewN n) ⟨p,1,none⟩ ⟨g,m*4,none⟩ _ (Ne.symm hg)).trans e0;have k1:∀ n,((W1.drewN n).setCell ⟨p,1,none⟩ (Aa Ab ((m:Int)+1))).cell? ⟨g,m*4+1,none⟩=some (Ac (ba x2)):=fun n=>(Cg (W1.drewN n) ⟨p,1,none⟩ ⟨g,m*4+1,none⟩ _ (Ne.symm hg)).trans e1;have k2:∀ n,((W1.drewN n).setCell ⟨p,1,none⟩ (Aa Ab ((m:Int)+1))).cell? ⟨g,m*4+2,none⟩=some (Aa Ab x3):=fun n=>(Cg (W1.drewN n) ⟨p,1,none⟩ ⟨g,m*4+2,none⟩ _ (Ne.symm hg)).trans e2;have k3:∀ n,((W1.drewN n).setCell ⟨p,1,none⟩ (Aa Ab ((m:Int)+1))).cell? ⟨g,m*4+3,none⟩=some (Aa Ab x4):=fun n=>(Cg (W1.drewN n) ⟨p,1,none⟩ ⟨g,m*4+3,none⟩ _ (Ne.symm hg)).trans e3;have hn2:∀ n,((W1.drewN n).setCell ⟨p,1,none⟩ (Aa Ab ((m:Int)+1))).heap[w.heap.size]?=some (Af #[Aa Ab 0,Ac ⟨#[]⟩,Aa Ab 0,Aa Ab 0] 93 (0,0)):=fun n=>(AX (W1.drewN n) ⟨p,1,none⟩ _ w.heap.size (by show w.heap.size≠p;omega)).trans hnew;have z0:=fun n=>(Ai (hn2 n) 0).trans (show _=some (Aa Ab 0)from rfl);have z1:=fun n=>(Ai (hn2 n) 1).trans (show _=some (Ac ⟨#[]⟩)from rfl);have z2:=fun n=>(Ai (hn2 n) 2).trans (show _=some (Aa Ab 0)from rfl);have z3:=fun n=>(Ai (hn2 n) 3).trans (show _=some (Aa Ab 0)from rfl);have u0:=fun n=>qe (hn2 n) 0;have u1:=fun n=>qe (hn2 n) 1;have u2:=fun n=>qe (hn2 n) 2;have u3:=fun n=>qe (hn2 n) 3;have HN2:=Aside0.mk hn2;clear hn2;have HF:=Aside0.mk hF;have HQ:=Aside0.mk hq;have HM:=Aside0.mk hm;have HP:=Aside0.mk hp;have HG:=Aside0.mk hg;have HGL:=Aside0.mk hgl;have HN:=Aside0.mk hnew;clear h hp hg hgl hq hF hm hnew al c0 c1 f1 y0 y1 y2 y3 hml;subst hW1;unfold qv;go_enter Tryz.func216,Tryz.ntmps216;go_wp2_with fail
 go_quiet ((go_at_call 28;exact Calls.quiet_of_same (hn _)));go_wp2_with fail
 go_region;go_wp2_with fail
 have hqs:=(HQ.out.drewN nq).step HM.out;have hnp:p≠w.heap.size:=by have:=HP.out;omega
 have hF3:=((((((HF.out.drewN nq).set (g:=p) (.inl rfl) (Ah HP.out) 1 (Aa Ab ((m:Int)+1))).set (g:=w.heap.size) (.inr (Ag _)) (Ah HP.out) 0 (Aa Ab x1)).set (g:=w.heap.size) (.inr (Ag _)) (Ah HP.out) 1 (Ac (ba x2))).set (g:=w.heap.size) (.inr (Ag _)) (Ah HP.out) 2 (Aa Ab x3)).set (g:=w.heap.size) (.inr (Ag _)) (Ah HP.out) 3 (Aa Ab x4)).drew;refine bodyPost_ret (results_cell_row rfl _ _ w.heap.size 93 #[Aa Ab x1,Ac (ba x2),Aa Ab x3,Aa Ab x4] (0,0) _ rfl (qj (qk (cs':= #[Aa Ab x1,Ac (ba x2),Aa Ab x3,Aa Ab x4]) (qk (cs':= #[Aa Ab x1,Ac (ba x2),Aa Ab x3,Aa Ab 0]) (qk (cs':= #[Aa Ab x1,Ac (ba x2),Aa Ab 0,Aa Ab 0]) (qk (cs':= #[Aa Ab x1,Ac ⟨#[]⟩,Aa Ab 0,Aa Ab 0]) (HN2.out nq) 0 _ rfl) 1 _ rfl) 2 _ rfl) 3 _ rfl)) Tryz.underlying93 rfl zm) rfl ?_;refine⟨rfl,HW.out.move hF3 ?_ hqs.suf,hF3⟩;rw [qj20,qz _ _ _ _ p hnp,qz _ _ _ _ p hnp,qz _ _ _ _ p hnp,qz _ _ _ _ p hnp];exact hqs.blk
end Go.Proofs.YtocdckniokhbbaaGreatDoor.Syn
