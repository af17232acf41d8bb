import Derived.Test.YtocdckniokhbbaaGreatDoorZrZz
import Derived.Test.YtocdckniokhbbaaGreatDoorZrFc
import Derived.Test.YtocdckniokhbbaaGreatDoorZrSynN
import Derived.ChangeArms
import Derived.ChangeOld
import Derived.WideShapes
import Derived.Lib.SmallJoins
import Derived.Test.YtocdckniokhbbaaGreatDoorZrFigG
import Derived.Deep.RegionHeld3
import Derived.Deep.DeepCutAuto
set_option linter.unusedVariables false
set_option linter.unusedSimpArgs false
open List renaming getElem?_eq_getElem→AH,length_cons→AE,drop_eq_getElem_cons→AQ,mem_of_getElem?→Bd
open Go.Proofs.Tryz renaming prog→Am,underlying24→AF,underlying71→BL,underlying28→AL
open Go.DataW renaming trod→Be
open Go.Value renaming int→Aa,string→Ac,bool→Ae,slice→Ad
open Go.IntKind renaming i64→Ab
open List.cons renaming injEq→BF
open Nat renaming le_refl→Ag,zero_le→A6
open Go.Lib renaming size_eq→A8,cell_of_heap→Ai
open Option renaming some→Az
open Go.RowKit.Below renaming refl→Ao
open Go.ByteArray renaming toList_eq→AB
open Go.Obj renaming cells→Af
open Array renaming getElem?_eq_some_iff→An
open Go.World renaming cell?_alloc_lt→AA
set_option maxHeartbeats 8000000
set_option maxRecDepth 100000
namespace Go.Proofs.YtocdckniokhbbaaGreatDoor.Syn
open Go.RowKit Go.Shelf Go.ChangeShapes Go.WideShapes YtocdckniokhbbaaGreatDoorW.PrintWords YtocdckniokhbbaaGreatDoorW.PrintLast YtocdckniokhbbaaGreatDoorW.PrintMore CharB SpanA FigD LexA LexF
def qp10 (n:Int):Prop:=(Lit.int .i64 n).wf=true
mutual
def wfE:Ex→Prop
 | .mk op s v t abs kids steps=>qp10 op∧qp10 v∧qp10 t∧s.length≤maxLen∧kids.length≤maxLen∧steps.length≤maxLen∧wfL kids∧wfS steps
def wfL:List Ex→Prop
 | []=>True
 | e :: l=>wfE e∧wfL l
def wfX:St→Prop
 | .mk axis kind name has preds=>qp10 axis∧qp10 kind∧name.length≤maxLen∧preds.length≤maxLen∧wfL preds
def wfS:List St→Prop
 | []=>True
 | e :: l=>wfX e∧wfS l
end
def qj10:Nat→Prop:=fun _=>True
theorem qz2 {α:Type} {xs:List α} {n i:Nat} (h:xs.length=n) (hi:i<n):∃ y,xs[i]?=some y:=⟨xs[i]'(by omega),AH (by omega)⟩
theorem build_R {w:World} {a:Addr} (len:Nat) (H:∀ i,i<len→ ∃ E cs,RepE qj10 w E cs∧wfE E∧a.block<w.heap.size∧ ∀ j,j<7→w.cell? ((a.add (i*7)).add j)=cs[j]?) :
  ∀ m k,m+k=len→ ∃ l xs,l.length=m∧RepR qj10 w l xs∧wfL l∧ ∀ j u,xs[j]?=some u→ ∃ a',some a=some a'∧qj10 a'.block∧a'.block<w.heap.size∧w.cell? (a'.add (k*7+j))=some u:=by
 intro m
 induction m with
 | zero=>intro k hk;exact⟨[],[],rfl,by simp only [RepR],trivial,fun j u h=>by simp at h⟩
 | succ m ih=>
  intro k hk;obtain⟨l,xs,h1,h2,h3,h4⟩:=ih (k+1) (by omega);obtain⟨E,cs,g1,g2,g3,g4⟩:=H k (by omega);have hcs:=g1.len;refine⟨E :: l,cs ++ xs,by rw [AE,h1],by simp only [RepR];exact⟨cs,xs,rfl,g1,h2⟩,⟨g2,h3⟩,fun j u hu=>?_⟩;by_cases hj:j<7
  ·rw [List.getElem?_append_left (by omega)]at hu;have:=g4 j hj;rw [Addr.add_add,hu]at this;exact⟨a,rfl,trivial,g3,this⟩
  ·rw [List.getElem?_append_right (by omega),hcs]at hu;obtain⟨a',e,e1,e2,e3⟩:=h4 (j - 7) u hu;exact⟨a',e,e1,e2,by rw [show k*7+j=(k+1)*7+(j - 7) by omega];exact e3⟩
theorem build_T {w:World} {a:Addr} (len:Nat) (H:∀ i,i<len→ ∃ E cs,RepX qj10 w E cs∧wfX E∧a.block<w.heap.size∧ ∀ j,j<5→w.cell? ((a.add (i*5)).add j)=cs[j]?) :
  ∀ m k,m+k=len→ ∃ l xs,l.length=m∧RepT qj10 w l xs∧wfS l∧ ∀ j u,xs[j]?=some u→ ∃ a',some a=some a'∧qj10 a'.block∧a'.block<w.heap.size∧w.cell? (a'.add (k*5+j))=some u:=by
 intro m
 induction m with
 | zero=>intro k hk;exact⟨[],[],rfl,by simp only [RepT],trivial,fun j u h=>by simp at h⟩
 | succ m ih=>
  intro k hk;obtain⟨l,xs,h1,h2,h3,h4⟩:=ih (k+1) (by omega);obtain⟨E,cs,g1,g2,g3,g4⟩:=H k (by omega);have hcs:=g1.len;refine⟨E :: l,cs ++ xs,by rw [AE,h1],by simp only [RepT];exact⟨cs,xs,rfl,g1,h2⟩,⟨g2,h3⟩,fun j u hu=>?_⟩;by_cases hj:j<5
  ·rw [List.getElem?_append_left (by omega)]at hu;have:=g4 j hj;rw [Addr.add_add,hu]at this;exact⟨a,rfl,trivial,g3,this⟩
  ·rw [List.getElem?_append_right (by omega),hcs]at hu;obtain⟨a',e,e1,e2,e3⟩:=h4 (j - 5) u hu;exact⟨a',e,e1,e2,by rw [show k*5+j=(k+1)*5+(j - 5) by omega];exact e3⟩
section
variable {H:Type} {enc:TypeId × Value→H} {w:World} {base:Nat} {sp:Nat→Bool} {held:Bool}
theorem qp2 {f:Field} {n tt k:Nat} {cs ds:List Value} {y:DataW H × List MemPlace} (h:Be enc Am w base sp held n f.type ((cs.drop f.offset).take (Am.cellsOf f.type))=some y) (ht:f.type=tt) (hk:Am.cellsOf tt=k) (hd:(cs.drop f.offset).take k=ds):Be enc Am w base sp held n tt ds=some y:=by
 subst ht;rw [hk,hd]at h;exact h
theorem qx20 {fuel:Nat} {cs:List Value} {x:DataW H × List MemPlace} (h:Be enc Am w base sp held fuel 24 cs=some x):∃ t v:Int,cs= [Aa Ab t,Aa Ab v]∧qp10 t∧qp10 v:=by
 obtain⟨xs,n,_,_,hl,hx,hg⟩:=DataW.trod_struct AF h
 match cs,hl.trans (show Am.cellsOf 24=2 from zr)with
 | [c0,c1],_=>
  obtain⟨y0,e0⟩:=qz2 hx (i:=0) (by decide);obtain⟨y1,e1⟩:=qz2 hx (i:=1) (by decide);have g0:Be enc Am w base sp held n 3 [c0]=some y0:=qp2 (k:=1) ((hg 0 _ rfl).trans e0) rfl zr rfl;have g1:Be enc Am w base sp held n 2 [c1]=some y1:=qp2 (k:=1) ((hg 1 _ rfl).trans e1) rfl zr rfl;obtain⟨t,ht,_,wt⟩:=DataW.trod_int (k:= .i64) zr g0;obtain⟨v,hv,_,wv⟩:=DataW.trod_int (k:= .i64) zr g1;simp only [BF,and_true]at ht hv;exact⟨t,v,by rw [ht,hv],wt,wv⟩
theorem qu20 {fuel:Nat} {cs:List Value} {x:DataW H × List MemPlace} (h:Be enc Am w base sp held fuel 71 cs=some x):∃ (k:Int) (s:ByteArray) (b:Bool),cs= [Aa Ab k,Ac s,Ae b]∧qp10 k∧s.size≤maxLen:=by
 obtain⟨xs,n,_,_,hl,hx,hg⟩:=DataW.trod_struct BL h
 match cs,hl.trans (show Am.cellsOf 71=3 from zr)with
 | [c0,c1,c2],_=>
  obtain⟨y0,e0⟩:=qz2 hx (i:=0) (by decide);obtain⟨y1,e1⟩:=qz2 hx (i:=1) (by decide);obtain⟨y2,e2⟩:=qz2 hx (i:=2) (by decide);have g0:Be enc Am w base sp held n 3 [c0]=some y0:=qp2 (k:=1) ((hg 0 _ rfl).trans e0) rfl zr rfl;have g1:Be enc Am w base sp held n 9 [c1]=some y1:=qp2 (k:=1) ((hg 1 _ rfl).trans e1) rfl zr rfl;have g2:Be enc Am w base sp held n 4 [c2]=some y2:=qp2 (k:=1) ((hg 2 _ rfl).trans e2) rfl zr rfl;obtain⟨t,ht,_,wt⟩:=DataW.trod_int (k:= .i64) zr g0;obtain⟨s,hs,_,hsz⟩:=DataW.trod_string zr g1;obtain⟨b,hb,_⟩:=DataW.trod_bool zr g2;simp only [BF,and_true]at ht hs hb;exact⟨t,s,b,by rw [ht,hs,hb],wt,hsz⟩
theorem qh22 {e:TypeId} {k len n i:Nat} {a:Addr} {elems:List (DataW H × List MemPlace)} (hk:Am.cellsOf e=k) (hpos:0<k) (hl:elems.length=len) (hi:i<len) (h:(w.cells? base (a.add (i*Am.cellsOf e)) (Am.cellsOf e)).bind (Be enc Am w base sp held n e)=elems[i]?) :
  ∃ cs y,Be enc Am w base sp held n e cs=some y∧cs.length=k∧a.block<w.heap.size∧ ∀ j,j<k→w.cell? ((a.add (i*k)).add j)=cs[j]? :=by
 subst hk;obtain⟨y,hy⟩:=qz2 hl hi;rw [hy]at h
 cases hc:w.cells? base (a.add (i*Am.cellsOf e)) (Am.cellsOf e)with
 | none=>rw [hc]at h;cases h
 | some cs=>
  rw [hc]at h;obtain⟨_,h1,h2⟩:=World.cells?_some hc;have hb:=World.cells?_block hc hpos;have hab:(a.add (i*Am.cellsOf e)).block=a.block:=by unfold Addr.add;split<;>rfl
  exact⟨cs,y,h,h1,by rw [← hab];exact hb,h2⟩
theorem qj14 {fuel:Nat} {c:Value} {x:DataW H × List MemPlace} (ih:∀ n,n<fuel→ ∀ cs x,Be enc Am w base sp held n 28 cs=some x→ ∃ E,RepE qj10 w E cs∧wfE E)
  (h:Be enc Am w base sp held fuel 25 [c]=some x):∃ A l cap xs,c= Ad A (List.length l) cap∧l.length≤cap∧l.length≤maxLen∧RepR qj10 w l xs∧wfL l∧Row qj10 w A xs:=by
 rcases DataW.trod_slice (e:=28) zr h with ⟨h1,_⟩ | ⟨a,len,cap,elems,rest,n,hn,h1,_,hb,hlc,hcm,hel,hat,_⟩
 ·simp only [BF,and_true]at h1;exact⟨none,[],0,[],h1,Ag _,A6 _,by simp only [RepR],trivial,Row.nil _ _ _⟩
 ·simp only [BF,and_true]at h1
  have H:∀ i,i<len→ ∃ E cs,RepE qj10 w E cs∧wfE E∧a.block<w.heap.size∧ ∀ j,j<7→w.cell? ((a.add (i*7)).add j)=cs[j]? :=fun i hi=>by
   obtain⟨cs,y,g1,g2,g3,g4⟩:=qh22 (k:=7) zr (by decide) hel hi (hat i hi);obtain⟨E,q1,q2⟩:=ih n (by omega) cs y g1;exact⟨E,cs,q1,q2,g3,g4⟩
  obtain⟨l,xs,e1,e2,e3,e4⟩:=build_R len H len 0 rfl;refine⟨some a,l,cap,xs,by rw [h1,e1],by omega,by omega,e2,e3,fun j u hu=>?_⟩;obtain⟨a',z1,z2,z3,z4⟩:=e4 j u hu;exact⟨a',z1,z2,z3,by rwa [Nat.zero_mul,Nat.zero_add]at z4⟩
theorem qv20 {fuel:Nat} {cs:List Value} {x:DataW H × List MemPlace} (ih:∀ n,n<fuel→ ∀ cs x,Be enc Am w base sp held n 28 cs=some x→ ∃ E,RepE qj10 w E cs∧wfE E)
  (h:Be enc Am w base sp held fuel 73 cs=some x):∃ E,RepX qj10 w E cs∧wfX E:=by
 obtain⟨xs,n,hn,_,hl,hx,hg⟩:=DataW.trod_struct Tryz.underlying73 h
 match cs,hl.trans (show Am.cellsOf 73=5 from zr)with
 | [c0,c1,c2,c3,c4],_=>
  obtain⟨y0,e0⟩:=qz2 hx (i:=0) (by decide);obtain⟨y1,e1⟩:=qz2 hx (i:=1) (by decide);obtain⟨y2,e2⟩:=qz2 hx (i:=2) (by decide);have g0:Be enc Am w base sp held n 3 [c0]=some y0:=qp2 (k:=1) ((hg 0 _ rfl).trans e0) rfl zr rfl;have g1:Be enc Am w base sp held n 71 [c1,c2,c3]=some y1:=qp2 (k:=3) ((hg 1 _ rfl).trans e1) rfl zr rfl;have g2:Be enc Am w base sp held n 25 [c4]=some y2:=qp2 (k:=1) ((hg 2 _ rfl).trans e2) rfl zr rfl;obtain⟨t,ht,_,wt⟩:=DataW.trod_int (k:= .i64) zr g0;obtain⟨k,s,b,h1,wk,ws⟩:=qu20 g1;obtain⟨A,l,cap,ys,rfl,z1,z2,z3,z4,z5⟩:=qj14 (fun m hm=>ih m (by omega)) g2;simp only [BF,and_true]at ht h1;obtain⟨rfl,rfl,rfl⟩:=h1;subst ht;refine⟨.mk t k s.data.toList b l,?_,?_⟩
  ·simp only [RepX];exact⟨_,by rw [qm8],A,cap,ys,rfl,z1,z3,z5⟩
  ·simp only [wfX];exact⟨wt,wk,by rw [← A8];exact ws,z2,z4⟩
theorem ql18 {fuel:Nat} {c:Value} {x:DataW H × List MemPlace} (ih:∀ n,n<fuel→ ∀ cs x,Be enc Am w base sp held n 28 cs=some x→ ∃ E,RepE qj10 w E cs∧wfE E)
  (h:Be enc Am w base sp held fuel 26 [c]=some x):∃ A l cap xs,c= Ad A (List.length l) cap∧l.length≤cap∧l.length≤maxLen∧RepT qj10 w l xs∧wfS l∧Row qj10 w A xs:=by
 rcases DataW.trod_slice (e:=73) zr h with ⟨h1,_⟩ | ⟨a,len,cap,elems,rest,n,hn,h1,_,hb,hlc,hcm,hel,hat,_⟩
 ·simp only [BF,and_true]at h1;exact⟨none,[],0,[],h1,Ag _,A6 _,by simp only [RepT],trivial,Row.nil _ _ _⟩
 ·simp only [BF,and_true]at h1
  have H:∀ i,i<len→ ∃ E cs,RepX qj10 w E cs∧wfX E∧a.block<w.heap.size∧ ∀ j,j<5→w.cell? ((a.add (i*5)).add j)=cs[j]? :=fun i hi=>by
   obtain⟨cs,y,g1,g2,g3,g4⟩:=qh22 (k:=5) zr (by decide) hel hi (hat i hi);obtain⟨E,q1,q2⟩:=qv20 (fun m hm=>ih m (by omega)) g1;exact⟨E,cs,q1,q2,g3,g4⟩
  obtain⟨l,xs,e1,e2,e3,e4⟩:=build_T len H len 0 rfl;refine⟨some a,l,cap,xs,by rw [h1,e1],by omega,by omega,e2,e3,fun j u hu=>?_⟩;obtain⟨a',z1,z2,z3,z4⟩:=e4 j u hu;exact⟨a',z1,z2,z3,by rwa [Nat.zero_mul,Nat.zero_add]at z4⟩
theorem qw20:∀ (fuel:Nat) (cs:List Value) (x:DataW H × List MemPlace),Be enc Am w base sp held fuel 28 cs=some x→ ∃ E,RepE qj10 w E cs∧wfE E:=by
 intro fuel
 induction fuel using Nat.strongRecOn with
 | ind fuel ih=>
  intro cs x h;obtain⟨xs,n,hn,_,hl,hx,hg⟩:=DataW.trod_struct AL h
  match cs,hl.trans (show Am.cellsOf 28=7 from zr)with
  | [c0,c1,c2,c3,c4,c5,c6],_=>
   obtain⟨y0,e0⟩:=qz2 hx (i:=0) (by decide);obtain⟨y1,e1⟩:=qz2 hx (i:=1) (by decide);obtain⟨y2,e2⟩:=qz2 hx (i:=2) (by decide);obtain⟨y3,e3⟩:=qz2 hx (i:=3) (by decide);obtain⟨y4,e4⟩:=qz2 hx (i:=4) (by decide);obtain⟨y5,e5⟩:=qz2 hx (i:=5) (by decide);have g0:Be enc Am w base sp held n 3 [c0]=some y0:=qp2 (k:=1) ((hg 0 _ rfl).trans e0) rfl zr rfl;have g1:Be enc Am w base sp held n 9 [c1]=some y1:=qp2 (k:=1) ((hg 1 _ rfl).trans e1) rfl zr rfl;have g2:Be enc Am w base sp held n 24 [c2,c3]=some y2:=qp2 (k:=2) ((hg 2 _ rfl).trans e2) rfl zr rfl;have g3:Be enc Am w base sp held n 4 [c4]=some y3:=qp2 (k:=1) ((hg 3 _ rfl).trans e3) rfl zr rfl;have g4:Be enc Am w base sp held n 25 [c5]=some y4:=qp2 (k:=1) ((hg 4 _ rfl).trans e4) rfl zr rfl;have g5:Be enc Am w base sp held n 26 [c6]=some y5:=qp2 (k:=1) ((hg 5 _ rfl).trans e5) rfl zr rfl;obtain⟨op,ho,_,wo⟩:=DataW.trod_int (k:= .i64) zr g0;obtain⟨s,hs,_,ws⟩:=DataW.trod_string zr g1;obtain⟨t,v,hd,wt,wv⟩:=qx20 g2;obtain⟨b,hb,_⟩:=DataW.trod_bool zr g3;obtain⟨A1,l1,cap1,ys1,rfl,p1,p2,p3,p4,p5⟩:=qj14 (fun m hm=>ih m (by omega)) g4;obtain⟨A2,l2,cap2,ys2,rfl,q1,q2,q3,q4,q5⟩:=ql18 (fun m hm=>ih m (by omega)) g5;simp only [BF,and_true]at ho hs hd hb;obtain⟨rfl,rfl⟩:=hd;subst ho hs hb;refine⟨.mk op s.data.toList t v b l1 l2,?_,?_⟩
   ·simp only [RepE];exact⟨_,_,by rw [qm8],⟨A1,cap1,ys1,rfl,p1,p3,p5⟩,⟨A2,cap2,ys2,rfl,q1,q3,q5⟩⟩
   ·simp only [wfE];exact⟨wo,wt,wv,by rw [← A8];exact ws,p2,q2,p4,q4⟩
theorem ql20 {r:Reach} {b0:Nat} {v:Value} {d:DataW H} {p:List MemPlace} (hv:Value.okWide Am w r b0 28 v) (h:DataW.Trod enc Am w base sp held 28 v d p):∃ E cs,v= .agg cs.toArray∧RepE qj10 w E cs∧wfE E:=by
 obtain⟨cs,rfl,_⟩:=okWide_struct AL hv;obtain⟨fuel,hf⟩:=h;obtain⟨E,h1,h2⟩:=qw20 fuel _ _ hf;exact⟨E,cs.toList,by simp,h1,h2⟩
end
end Go.Proofs.YtocdckniokhbbaaGreatDoor.Syn
namespace Go.Proofs.YtocdckniokhbbaaGreatDoor.Syn
open Go.RowKit Go.Shelf YtocdckniokhbbaaGreatDoorW.PrintWords YtocdckniokhbbaaGreatDoorW.PrintLast YtocdckniokhbbaaGreatDoorW.PrintMore CharB SpanA FigD LexA LexF
theorem qp9 {l m:List Ex} {i:Nat} {x y:Ex} (hi:i<l.length) (hx:l[i]?=some x) (hy:m[i]?=some y):qq1 (l.drop i) (m.drop i)=(qx1 x y && qq1 (l.drop (i+1)) (m.drop (i+1))):=by
 have hj:i<m.length:=(List.getElem?_eq_some_iff.1 hy).1;rw [AQ hi,AQ hj,Az.inj ((AH hi).symm.trans hx),Az.inj ((AH hj).symm.trans hy)];simp only [qq1]
theorem qi11 {l m:List St} {i:Nat} {x y:St} (hi:i<l.length) (hx:l[i]?=some x) (hy:m[i]?=some y):qd3 (l.drop i) (m.drop i)=(qc3 x y && qd3 (l.drop (i+1)) (m.drop (i+1))):=by
 have hj:i<m.length:=(List.getElem?_eq_some_iff.1 hy).1;rw [AQ hi,AQ hj,Az.inj ((AH hi).symm.trans hx),Az.inj ((AH hj).symm.trans hy)];simp only [qd3]
theorem qg11 {l m:List Ex} {i:Nat} (h:l.length=m.length) (hi:¬ i<l.length):qq1 (l.drop i) (m.drop i)=true:=by
 rw [List.drop_eq_nil_of_le (by omega),List.drop_eq_nil_of_le (by omega)];simp only [qq1]
theorem qy13 {l m:List St} {i:Nat} (h:l.length=m.length) (hi:¬ i<l.length):qd3 (l.drop i) (m.drop i)=true:=by
 rw [List.drop_eq_nil_of_le (by omega),List.drop_eq_nil_of_le (by omega)];simp only [qd3]
theorem qn6:∀ {l:List Ex} {x:Ex},wfL l→x ∈ l→wfE x
 | y :: l,x,h,hm=>by
  rcases List.mem_cons.1 hm with rfl | hm
  ·exact h.1
  ·exact qn6 h.2 hm
theorem qx13 {l m:List Ex} (h:¬ l.length=m.length):qq1 l m=false:=by
 cases hq:qq1 l m with
 | false=>rfl
 | true=>exact absurd (qx17 hq) h
def qa11 (w:World) (b:Bool):Ending→World→Prop:=fun e w'=>e= .returned (Ae b)∧Below w.heap.size w w'
def ql16 (E:Ex):Prop:=∀ (E2:Ex) (w:World) (F G:Nat→Prop) (op:Int) (s:ByteArray) (d t:Int) (b:Bool) (A1:Option Addr) (n1 c1:Nat) (A2:Option Addr) (n2 c2:Nat) (op':Int) (s':ByteArray) (d' t':Int) (b':Bool) (A1':Option Addr) (n1' c1':Nat) (A2':Option Addr) (n2' c2':Nat),
 RepE F w E [Aa Ab op,Ac s,Aa Ab d,Aa Ab t,Ae b,Ad A1 n1 c1,Ad A2 n2 c2]→RepE G w E2 [Aa Ab op',Ac s',Aa Ab d',Aa Ab t',Ae b',Ad A1' n1' c1',Ad A2' n2' c2']→wfE E→wfE E2 →
 Calls Am 14 #[.agg #[Aa Ab op,Ac s,Aa Ab d,Aa Ab t,Ae b,Ad A1 n1 c1,Ad A2 n2 c2],.agg #[Aa Ab op',Ac s',Aa Ab d',Aa Ab t',Ae b',Ad A1' n1' c1',Ad A2' n2' c2']] w (qa11 w (qx1 E E2))
theorem qn14 (l:List Ex) (hl:∀ x ∈ l,ql16 x) (m:List Ex) (w:World) (F G:Nat→Prop) (A:Option Addr) (c:Nat) (A':Option Addr) (c':Nat) (xs ys:List Value) (hR:RepR F w l xs) (hW:Row F w A xs) (hR2:RepR G w m ys) (hW2:Row G w A' ys) (hwl:wfL l) (hwm:wfL m) (hlen:l.length≤maxLen) (hlen2:m.length≤maxLen) :
  Calls Am 32 #[Ad A l.length c,Ad A' m.length c'] w (qa11 w (qq1 l m)):=by
 by_cases hlm:l.length=m.length
 ·have HLm:=Aside0.mk hlm;obtain⟨R,hR0⟩:∃ R,qq1 l m=R:=⟨_,rfl⟩;rw [hR0];have HQs:Aside0 (qq1 (l.drop 0) (m.drop 0)=R):=⟨zbp⟩;have HL:=Aside0.mk hl;have HR:=Aside0.mk hR;have HW:=Aside0.mk hW;have HR2:=Aside0.mk hR2;have HW2:=Aside0.mk hW2;have HWl:=Aside0.mk hwl;have HWm:=Aside0.mk hwm;have HLen:=Aside0.mk (show l.length≤9223372036854775807 by unfold maxLen at hlen;omega);have HB0:=Aside0.mk (Ao w.heap.size w);have hne:((l.length:Int) !=(m.length:Int))=false:=by simp;omega
  clear hlm hR0 hl hR hW hR2 hW2 hwl hwm hlen hlen2;go_enter Tryz.func32,Tryz.ntmps32;go_wp2_with fail
  go_loopg [5] l.length (fun kq v5 w'=>∃ i:Nat,v5= Aa Ab (i:Int)∧Aside0 (kq+i=l.length)∧Aside0 (Below w.heap.size w w')∧Aside0 (qq1 (l.drop i) (m.drop i)=R))
  case atStart=>exact⟨0,rfl,⟨rfl⟩,HB0,HQs⟩
  case round=>
   obtain⟨i,rfl,HI,HBr,HQ⟩:=hrel;clear HQs;by_cases hi:i<l.length
   ·obtain⟨x,hix⟩:∃ x,l[i]?=some x:=⟨_,AH hi⟩;obtain⟨y,hiy⟩:∃ y,m[i]?=some y:=⟨_,AH (by have:=HLm.out;omega)⟩;obtain⟨ax,opx,sx,dx,tx,bx,A1x,n1x,c1x,A2x,n2x,c2x,rfl,hFa,hba,hRx,x0,x1,x2,x3,x4,x5,x6⟩:=Row.exp (HR.out.keeps (Keeps.of_below HBr.out)) (HW.out.keeps (Keeps.of_below HBr.out)) i x hix;obtain⟨az,opz,sz,dz,tz,bz,A1z,n1z,c1z,A2z,n2z,c2z,rfl,hFa2,hba2,hRy,y0,y1,y2,y3,y4,y5,y6⟩:=Row.exp (HR2.out.keeps (Keeps.of_below HBr.out)) (HW2.out.keeps (Keeps.of_below HBr.out)) i y hiy;have hmx:x ∈ l:=Bd hix;have hmy:y ∈ m:=Bd hiy;have hlt:decide ((i:Int)<(l.length:Int))=true:=by simp;omega
    have h0i:(0:Int)≤(i:Int):=by omega
    have hil:(i:Int)<(l.length:Int):=by omega
    have him:(i:Int)<(m.length:Int):=by have:=HLm.out;omega
    have hw1:wrap64 ((i:Int)+1)=((i+1:Nat):Int):=by have:=HLen.out;unfold wrap64;omega
    have hQ:=HQ.out;rw [qp9 hi hix hiy]at hQ;have hd:=fun {E:Ex} {cs:List Value} {F:Nat→Prop} (h:RepE F wr E cs)=>h.keeps (Keeps.of_below (Below.drew (Ao wr.heap.size wr)));have hc:=HL.out x hmx y wr.drew F G _ _ _ _ _ _ _ _ _ _ _ _ _ _ _ _ _ _ _ _ _ _ (hd hRx) (hd hRy) (qn6 HWl.out hmx) (qn6 HWm.out hmy);clear hix hiy hmx hmy hRx hRy hd HQ
    cases hq:qx1 x y with
    | false=>
     rw [hq]at hc hQ;simp only [Bool.false_and]at hQ;subst hQ;clear hq;go_wp2_with fail
     go_region_with (first | (go_at_call 14;refine hc.mono ?_;rintro e w3 ⟨rfl,b3⟩;have b3w:=(Below.drew (Ao wr.heap.size wr)).trans b3;have HB3:=Aside0.mk (HBr.out.trans (b3w.mono HBr.out.size));clear b3 b3w))
     all_goals (go_wp2_with fail;go_ret;exact⟨rfl,HB3.out⟩)
    | true=>
     rw [hq]at hc hQ;simp only [Bool.true_and]at hQ;have HQ9:=Aside0.mk hQ;clear hq hQ;go_wp2_with fail
     go_region_with (first | (go_at_call 14;refine hc.mono ?_;rintro e w3 ⟨rfl,b3⟩;have b3w:=(Below.drew (Ao wr.heap.size wr)).trans b3;have HB3:=Aside0.mk (HBr.out.trans (b3w.mono HBr.out.size));clear b3 b3w))
     all_goals (clear x0 x1 x2 x3 x4 x5 x6 y0 y1 y2 y3 y4 y5 y6;go_wp2_with fail;(obtain⟨g2,rfl⟩:∃ g2,gk=g2+1:=⟨gk - 1,zax⟩);go_roundg g2;(case measure=>omega);(case rel=>exact⟨i+1,congrArg (Value.int .i64) hw1,⟨zax⟩,HB3,HQ9⟩))
   ·have hlt:decide ((i:Int)<(l.length:Int))=false:=by simp;omega
    have hlt2:decide (i<l.length)=false:=by simp;omega
    have hQ:=HQ.out;rw [qg11 HLm.out hi]at hQ;subst hQ;clear HQ hi;go_wp2_with fail
    go_ret;exact⟨rfl,HBr.out⟩
 ·rw [qx13 hlm];have hne:((l.length:Int) !=(m.length:Int))=true:=by simp;omega
  have HB0:=Aside0.mk (Ao w.heap.size w);clear hl hR hW hR2 hW2 hwl hwm hlen hlen2 hlm;go_enter Tryz.func32,Tryz.ntmps32;go_wp2_with fail
  go_ret;exact⟨rfl,HB0.out⟩
end Go.Proofs.YtocdckniokhbbaaGreatDoor.Syn
namespace Go.Proofs.YtocdckniokhbbaaGreatDoor.Syn
open Go.RowKit Go.Shelf YtocdckniokhbbaaGreatDoorW.PrintWords YtocdckniokhbbaaGreatDoorW.PrintLast YtocdckniokhbbaaGreatDoorW.PrintMore CharB SpanA FigD LexA LexF
theorem qn7:∀ {l:List St} {x:St},wfS l→x ∈ l→wfX x
 | y :: l,x,h,hm=>by
  rcases List.mem_cons.1 hm with rfl | hm
  ·exact h.1
  ·exact qn7 h.2 hm
def prOf:St→List Ex
 | .mk _ _ _ _ ps=>ps
theorem RepX.inv5 {F:Nat→Prop} {w:World} {axis kind:Int} {name:List UInt8} {has:Bool} {ps:List Ex} {ax kx:Int} {sx:ByteArray} {bx:Bool} {A1x:Option Addr} {n1x c1x:Nat} (h:RepX F w (.mk axis kind name has ps) [Aa Ab ax,Aa Ab kx,Ac sx,Ae bx,Ad A1x n1x c1x]):ax=axis∧kx=kind∧sx=ba name∧bx=has∧n1x=ps.length∧ ∃ zs,RepR F w ps zs∧Row F w A1x zs:=by
 simp only [RepX]at h;obtain⟨K,h1,A,c,zs,rfl,_,h3,h4⟩:=h;simp only [BF,Value.int.injEq,Value.string.injEq,Value.bool.injEq,Value.slice.injEq,and_true,true_and]at h1;obtain⟨rfl,rfl,rfl,rfl,rfl,rfl,rfl⟩:=h1;exact⟨rfl,rfl,rfl,rfl,rfl,zs,h3,h4⟩
theorem qm5 (a b:List UInt8):((ba a).toList == (ba b).toList)=(a == b):=by rw [AB,AB];rfl
theorem sr_op (op:Int) (s:List UInt8) (v t:Int) (abs:Bool) (kids:List Ex) (steps:List St) (op':Int) (s':List UInt8) (v' t':Int) (abs':Bool) (kids':List Ex) (steps':List St) (w:World) (A1:Option Addr) (c1:Nat) (A2:Option Addr) (c2:Nat) (A1':Option Addr) (c1':Nat) (A2':Option Addr) (c2':Nat) (h_op:¬ op=op'):Calls Am 14 #[.agg #[Aa Ab op,Ac (ba s),Aa Ab v,Aa Ab t,Ae abs,Ad A1 kids.length c1,Ad A2 steps.length c2],.agg #[Aa Ab op',Ac (ba s'),Aa Ab v',Aa Ab t',Ae abs',Ad A1' kids'.length c1',Ad A2' steps'.length c2']] w (qa11 w (qx1 (.mk op s v t abs kids steps) (.mk op' s' v' t' abs' kids' steps'))):=by
 rw [show qx1 (.mk op s v t abs kids steps) (.mk op' s' v' t' abs' kids' steps')=false by simp [qx1,h_op]];have HB2:=Aside0.mk (((Ao w.heap.size w).alloc (Ag _) (Af #[Aa Ab op,Ac (ba s),Aa Ab v,Aa Ab t,Ae abs,Ad A1 kids.length c1,Ad A2 steps.length c2] 28)).alloc (by simp) (Af #[Aa Ab op',Ac (ba s'),Aa Ab v',Aa Ab t',Ae abs',Ad A1' kids'.length c1',Ad A2' steps'.length c2'] 28));have eop:(op == op')=false:=by simp [h_op]
 have eop2:(op !=op')=true:=by simp [h_op]
 clear h_op;go_enter Tryz.func14,Tryz.ntmps14;go_wp2_with fail
 go_ret;exact⟨rfl,HB2.out⟩
theorem sr_s (op:Int) (s:List UInt8) (v t:Int) (abs:Bool) (kids:List Ex) (steps:List St) (op':Int) (s':List UInt8) (v' t':Int) (abs':Bool) (kids':List Ex) (steps':List St) (w:World) (A1:Option Addr) (c1:Nat) (A2:Option Addr) (c2:Nat) (A1':Option Addr) (c1':Nat) (A2':Option Addr) (c2':Nat) (h_op:op=op') (h_s:¬ s=s'):Calls Am 14 #[.agg #[Aa Ab op,Ac (ba s),Aa Ab v,Aa Ab t,Ae abs,Ad A1 kids.length c1,Ad A2 steps.length c2],.agg #[Aa Ab op',Ac (ba s'),Aa Ab v',Aa Ab t',Ae abs',Ad A1' kids'.length c1',Ad A2' steps'.length c2']] w (qa11 w (qx1 (.mk op s v t abs kids steps) (.mk op' s' v' t' abs' kids' steps'))):=by
 rw [show qx1 (.mk op s v t abs kids steps) (.mk op' s' v' t' abs' kids' steps')=false by simp [qx1,h_s]];have HB2:=Aside0.mk (((Ao w.heap.size w).alloc (Ag _) (Af #[Aa Ab op,Ac (ba s),Aa Ab v,Aa Ab t,Ae abs,Ad A1 kids.length c1,Ad A2 steps.length c2] 28)).alloc (by simp) (Af #[Aa Ab op',Ac (ba s'),Aa Ab v',Aa Ab t',Ae abs',Ad A1' kids'.length c1',Ad A2' steps'.length c2'] 28));have eop:(op == op')=true:=by simp [h_op]
 have eop2:(op !=op')=false:=by simp [h_op]
 have es:((ba s).toList == (ba s').toList)=false:=by rw [qm5];simp [h_s]
 have es2:((ba s).toList !=(ba s').toList)=true:=by unfold bne;rw [es];rfl
 clear h_op h_s;go_enter Tryz.func14,Tryz.ntmps14;go_wp2_with fail
 go_ret;exact⟨rfl,HB2.out⟩
theorem sr_v (op:Int) (s:List UInt8) (v t:Int) (abs:Bool) (kids:List Ex) (steps:List St) (op':Int) (s':List UInt8) (v' t':Int) (abs':Bool) (kids':List Ex) (steps':List St) (w:World) (A1:Option Addr) (c1:Nat) (A2:Option Addr) (c2:Nat) (A1':Option Addr) (c1':Nat) (A2':Option Addr) (c2':Nat) (h_op:op=op') (h_s:s=s') (h_v:¬ v=v'):Calls Am 14 #[.agg #[Aa Ab op,Ac (ba s),Aa Ab v,Aa Ab t,Ae abs,Ad A1 kids.length c1,Ad A2 steps.length c2],.agg #[Aa Ab op',Ac (ba s'),Aa Ab v',Aa Ab t',Ae abs',Ad A1' kids'.length c1',Ad A2' steps'.length c2']] w (qa11 w (qx1 (.mk op s v t abs kids steps) (.mk op' s' v' t' abs' kids' steps'))):=by
 rw [show qx1 (.mk op s v t abs kids steps) (.mk op' s' v' t' abs' kids' steps')=false by simp [qx1,h_v]];have HB2:=Aside0.mk (((Ao w.heap.size w).alloc (Ag _) (Af #[Aa Ab op,Ac (ba s),Aa Ab v,Aa Ab t,Ae abs,Ad A1 kids.length c1,Ad A2 steps.length c2] 28)).alloc (by simp) (Af #[Aa Ab op',Ac (ba s'),Aa Ab v',Aa Ab t',Ae abs',Ad A1' kids'.length c1',Ad A2' steps'.length c2'] 28));have eop:(op == op')=true:=by simp [h_op]
 have eop2:(op !=op')=false:=by simp [h_op]
 have es:((ba s).toList == (ba s').toList)=true:=by rw [qm5];simp [h_s]
 have es2:((ba s).toList !=(ba s').toList)=false:=by unfold bne;rw [es];rfl
 have ev:(v == v')=false:=by simp [h_v]
 have ev2:(v !=v')=true:=by simp [h_v]
 clear h_op h_s h_v;go_enter Tryz.func14,Tryz.ntmps14;go_wp2_with fail
 go_ret;exact⟨rfl,HB2.out⟩
theorem sr_t (op:Int) (s:List UInt8) (v t:Int) (abs:Bool) (kids:List Ex) (steps:List St) (op':Int) (s':List UInt8) (v' t':Int) (abs':Bool) (kids':List Ex) (steps':List St) (w:World) (A1:Option Addr) (c1:Nat) (A2:Option Addr) (c2:Nat) (A1':Option Addr) (c1':Nat) (A2':Option Addr) (c2':Nat) (h_op:op=op') (h_s:s=s') (h_v:v=v') (h_t:¬ t=t'):Calls Am 14 #[.agg #[Aa Ab op,Ac (ba s),Aa Ab v,Aa Ab t,Ae abs,Ad A1 kids.length c1,Ad A2 steps.length c2],.agg #[Aa Ab op',Ac (ba s'),Aa Ab v',Aa Ab t',Ae abs',Ad A1' kids'.length c1',Ad A2' steps'.length c2']] w (qa11 w (qx1 (.mk op s v t abs kids steps) (.mk op' s' v' t' abs' kids' steps'))):=by
 rw [show qx1 (.mk op s v t abs kids steps) (.mk op' s' v' t' abs' kids' steps')=false by simp [qx1,h_t]];have HB2:=Aside0.mk (((Ao w.heap.size w).alloc (Ag _) (Af #[Aa Ab op,Ac (ba s),Aa Ab v,Aa Ab t,Ae abs,Ad A1 kids.length c1,Ad A2 steps.length c2] 28)).alloc (by simp) (Af #[Aa Ab op',Ac (ba s'),Aa Ab v',Aa Ab t',Ae abs',Ad A1' kids'.length c1',Ad A2' steps'.length c2'] 28));have eop:(op == op')=true:=by simp [h_op]
 have eop2:(op !=op')=false:=by simp [h_op]
 have es:((ba s).toList == (ba s').toList)=true:=by rw [qm5];simp [h_s]
 have es2:((ba s).toList !=(ba s').toList)=false:=by unfold bne;rw [es];rfl
 have ev:(v == v')=true:=by simp [h_v]
 have ev2:(v !=v')=false:=by simp [h_v]
 have et:(t == t')=false:=by simp [h_t]
 have et2:(t !=t')=true:=by simp [h_t]
 clear h_op h_s h_v h_t;go_enter Tryz.func14,Tryz.ntmps14;go_wp2_with fail
 go_ret;exact⟨rfl,HB2.out⟩
theorem sr_abs (op:Int) (s:List UInt8) (v t:Int) (abs:Bool) (kids:List Ex) (steps:List St) (op':Int) (s':List UInt8) (v' t':Int) (abs':Bool) (kids':List Ex) (steps':List St) (w:World) (A1:Option Addr) (c1:Nat) (A2:Option Addr) (c2:Nat) (A1':Option Addr) (c1':Nat) (A2':Option Addr) (c2':Nat) (h_op:op=op') (h_s:s=s') (h_v:v=v') (h_t:t=t') (h_abs:¬ abs=abs'):Calls Am 14 #[.agg #[Aa Ab op,Ac (ba s),Aa Ab v,Aa Ab t,Ae abs,Ad A1 kids.length c1,Ad A2 steps.length c2],.agg #[Aa Ab op',Ac (ba s'),Aa Ab v',Aa Ab t',Ae abs',Ad A1' kids'.length c1',Ad A2' steps'.length c2']] w (qa11 w (qx1 (.mk op s v t abs kids steps) (.mk op' s' v' t' abs' kids' steps'))):=by
 rw [show qx1 (.mk op s v t abs kids steps) (.mk op' s' v' t' abs' kids' steps')=false by simp [qx1,h_abs]];have HB2:=Aside0.mk (((Ao w.heap.size w).alloc (Ag _) (Af #[Aa Ab op,Ac (ba s),Aa Ab v,Aa Ab t,Ae abs,Ad A1 kids.length c1,Ad A2 steps.length c2] 28)).alloc (by simp) (Af #[Aa Ab op',Ac (ba s'),Aa Ab v',Aa Ab t',Ae abs',Ad A1' kids'.length c1',Ad A2' steps'.length c2'] 28));have eop:(op == op')=true:=by simp [h_op]
 have eop2:(op !=op')=false:=by simp [h_op]
 have es:((ba s).toList == (ba s').toList)=true:=by rw [qm5];simp [h_s]
 have es2:((ba s).toList !=(ba s').toList)=false:=by unfold bne;rw [es];rfl
 have ev:(v == v')=true:=by simp [h_v]
 have ev2:(v !=v')=false:=by simp [h_v]
 have et:(t == t')=true:=by simp [h_t]
 have et2:(t !=t')=false:=by simp [h_t]
 have eabs:(abs == abs')=false:=by simp [h_abs]
 have eabs2:(abs !=abs')=true:=by simp [h_abs]
 clear h_op h_s h_v h_t h_abs;go_enter Tryz.func14,Tryz.ntmps14;go_wp2_with fail
 go_ret;exact⟨rfl,HB2.out⟩
theorem sr_len (op:Int) (s:List UInt8) (v t:Int) (abs:Bool) (kids:List Ex) (steps:List St) (op':Int) (s':List UInt8) (v' t':Int) (abs':Bool) (kids':List Ex) (steps':List St) (w:World) (A1:Option Addr) (c1:Nat) (A2:Option Addr) (c2:Nat) (A1':Option Addr) (c1':Nat) (A2':Option Addr) (c2':Nat) (h_op:op=op') (h_s:s=s') (h_v:v=v') (h_t:t=t') (h_abs:abs=abs') (h_len:¬ steps.length=steps'.length):Calls Am 14 #[.agg #[Aa Ab op,Ac (ba s),Aa Ab v,Aa Ab t,Ae abs,Ad A1 kids.length c1,Ad A2 steps.length c2],.agg #[Aa Ab op',Ac (ba s'),Aa Ab v',Aa Ab t',Ae abs',Ad A1' kids'.length c1',Ad A2' steps'.length c2']] w (qa11 w (qx1 (.mk op s v t abs kids steps) (.mk op' s' v' t' abs' kids' steps'))):=by
 rw [show qx1 (.mk op s v t abs kids steps) (.mk op' s' v' t' abs' kids' steps')=false by simp [qx1,h_len]];have HB2:=Aside0.mk (((Ao w.heap.size w).alloc (Ag _) (Af #[Aa Ab op,Ac (ba s),Aa Ab v,Aa Ab t,Ae abs,Ad A1 kids.length c1,Ad A2 steps.length c2] 28)).alloc (by simp) (Af #[Aa Ab op',Ac (ba s'),Aa Ab v',Aa Ab t',Ae abs',Ad A1' kids'.length c1',Ad A2' steps'.length c2'] 28));have eop:(op == op')=true:=by simp [h_op]
 have eop2:(op !=op')=false:=by simp [h_op]
 have es:((ba s).toList == (ba s').toList)=true:=by rw [qm5];simp [h_s]
 have es2:((ba s).toList !=(ba s').toList)=false:=by unfold bne;rw [es];rfl
 have ev:(v == v')=true:=by simp [h_v]
 have ev2:(v !=v')=false:=by simp [h_v]
 have et:(t == t')=true:=by simp [h_t]
 have et2:(t !=t')=false:=by simp [h_t]
 have eabs:(abs == abs')=true:=by simp [h_abs]
 have eabs2:(abs !=abs')=false:=by simp [h_abs]
 have el:((steps.length:Int) == (steps'.length:Int))=false:=by simp;omega
 have el2:((steps.length:Int) !=(steps'.length:Int))=true:=by simp;omega
 have el3:(steps.length == steps'.length)=false:=by simp;omega
 have el4:(steps.length !=steps'.length)=true:=by simp;omega
 clear h_op h_s h_v h_t h_abs h_len;go_enter Tryz.func14,Tryz.ntmps14;go_wp2_with fail
 go_ret;exact⟨rfl,HB2.out⟩
theorem sr_kids (op:Int) (s:List UInt8) (v t:Int) (abs:Bool) (kids:List Ex) (steps:List St) (op':Int) (s':List UInt8) (v' t':Int) (abs':Bool) (kids':List Ex) (steps':List St) (w:World) (A1:Option Addr) (c1:Nat) (A2:Option Addr) (c2:Nat) (A1':Option Addr) (c1':Nat) (A2':Option Addr) (c2':Nat) (h_op:op=op') (h_s:s=s') (h_v:v=v') (h_t:t=t') (h_abs:abs=abs') (h_len:steps.length=steps'.length) (hc:∀ W,Below w.heap.size w W→Calls Am 32 #[Ad A1 kids.length c1,Ad A1' kids'.length c1'] W (qa11 W false)) (hq:qq1 kids kids'=false):Calls Am 14 #[.agg #[Aa Ab op,Ac (ba s),Aa Ab v,Aa Ab t,Ae abs,Ad A1 kids.length c1,Ad A2 steps.length c2],.agg #[Aa Ab op',Ac (ba s'),Aa Ab v',Aa Ab t',Ae abs',Ad A1' kids'.length c1',Ad A2' steps'.length c2']] w (qa11 w (qx1 (.mk op s v t abs kids steps) (.mk op' s' v' t' abs' kids' steps'))):=by
 rw [show qx1 (.mk op s v t abs kids steps) (.mk op' s' v' t' abs' kids' steps')=false by simp [qx1,hq]];have HB2:=Aside0.mk (((Ao w.heap.size w).alloc (Ag _) (Af #[Aa Ab op,Ac (ba s),Aa Ab v,Aa Ab t,Ae abs,Ad A1 kids.length c1,Ad A2 steps.length c2] 28)).alloc (by simp) (Af #[Aa Ab op',Ac (ba s'),Aa Ab v',Aa Ab t',Ae abs',Ad A1' kids'.length c1',Ad A2' steps'.length c2'] 28));have eop:(op == op')=true:=by simp [h_op]
 have eop2:(op !=op')=false:=by simp [h_op]
 have es:((ba s).toList == (ba s').toList)=true:=by rw [qm5];simp [h_s]
 have es2:((ba s).toList !=(ba s').toList)=false:=by unfold bne;rw [es];rfl
 have ev:(v == v')=true:=by simp [h_v]
 have ev2:(v !=v')=false:=by simp [h_v]
 have et:(t == t')=true:=by simp [h_t]
 have et2:(t !=t')=false:=by simp [h_t]
 have eabs:(abs == abs')=true:=by simp [h_abs]
 have eabs2:(abs !=abs')=false:=by simp [h_abs]
 have el:((steps.length:Int) == (steps'.length:Int))=true:=by simp;omega
 have el2:((steps.length:Int) !=(steps'.length:Int))=false:=by simp;omega
 have el3:(steps.length == steps'.length)=true:=by simp;omega
 have el4:(steps.length !=steps'.length)=false:=by simp;omega
 have HC:=Aside0.mk (hc _ HB2.out);clear hq hc h_op h_s h_v h_t h_abs h_len;go_enter Tryz.func14,Tryz.ntmps14;go_wp2_with fail
 refine HC.out.mono ?_;rintro e w3 ⟨rfl,b3⟩;have HB3:=Aside0.mk (HB2.out.trans (b3.mono HB2.out.size));clear b3;go_wp2_with fail
 go_ret;exact⟨rfl,HB3.out⟩
theorem qw23 (op:Int) (s:List UInt8) (v t:Int) (abs:Bool) (kids:List Ex) (steps:List St) (op':Int) (s':List UInt8) (v' t':Int) (abs':Bool) (kids':List Ex) (steps':List St) (w:World) (A1:Option Addr) (c1:Nat) (A2:Option Addr) (c2:Nat) (A1':Option Addr) (c1':Nat) (A2':Option Addr) (c2':Nat) (h_op:op=op') (h_s:s=s') (h_v:v=v') (h_t:t=t') (h_abs:abs=abs') (h_len:steps.length=steps'.length) (F G:Nat→Prop) (xs ys:List Value) (hs:∀ st ∈ steps,∀ x ∈ prOf st,ql16 x) (hR:RepT F w steps xs) (hW:Row F w A2 xs) (hR2:RepT G w steps' ys) (hW2:Row G w A2' ys) (hwl:wfS steps) (hwm:wfS steps') (hlen:steps.length≤maxLen) (hlen2:steps'.length≤maxLen) (hc:∀ W,Below w.heap.size w W→Calls Am 32 #[Ad A1 kids.length c1,Ad A1' kids'.length c1'] W (qa11 W true)) (hq:qq1 kids kids'=true):Calls Am 14 #[.agg #[Aa Ab op,Ac (ba s),Aa Ab v,Aa Ab t,Ae abs,Ad A1 kids.length c1,Ad A2 steps.length c2],.agg #[Aa Ab op',Ac (ba s'),Aa Ab v',Aa Ab t',Ae abs',Ad A1' kids'.length c1',Ad A2' steps'.length c2']] w (qa11 w (qx1 (.mk op s v t abs kids steps) (.mk op' s' v' t' abs' kids' steps'))):=by
 obtain⟨R,hR0⟩:∃ R,qd3 steps steps'=R:=⟨_,rfl⟩;rw [show qx1 (.mk op s v t abs kids steps) (.mk op' s' v' t' abs' kids' steps')=R by simp [qx1,hq,hR0,h_op,h_s,h_v,h_t,h_abs,h_len]];have HQs:Aside0 (qd3 (steps.drop 0) (steps'.drop 0)=R):=⟨zbp⟩;have HLm:=Aside0.mk h_len;have HB2:=Aside0.mk (((Ao w.heap.size w).alloc (Ag _) (Af #[Aa Ab op,Ac (ba s),Aa Ab v,Aa Ab t,Ae abs,Ad A1 kids.length c1,Ad A2 steps.length c2] 28)).alloc (by simp) (Af #[Aa Ab op',Ac (ba s'),Aa Ab v',Aa Ab t',Ae abs',Ad A1' kids'.length c1',Ad A2' steps'.length c2'] 28));have eop:(op == op')=true:=by simp [h_op]
 have eop2:(op !=op')=false:=by simp [h_op]
 have es:((ba s).toList == (ba s').toList)=true:=by rw [qm5];simp [h_s]
 have es2:((ba s).toList !=(ba s').toList)=false:=by unfold bne;rw [es];rfl
 have ev:(v == v')=true:=by simp [h_v]
 have ev2:(v !=v')=false:=by simp [h_v]
 have et:(t == t')=true:=by simp [h_t]
 have et2:(t !=t')=false:=by simp [h_t]
 have eabs:(abs == abs')=true:=by simp [h_abs]
 have eabs2:(abs !=abs')=false:=by simp [h_abs]
 have el:((steps.length:Int) == (steps'.length:Int))=true:=by simp;omega
 have el2:((steps.length:Int) !=(steps'.length:Int))=false:=by simp;omega
 have el3:(steps.length == steps'.length)=true:=by simp;omega
 have el4:(steps.length !=steps'.length)=false:=by simp;omega
 have HC:=Aside0.mk (hc _ HB2.out);have HS:=Aside0.mk hs;have HR:=Aside0.mk hR;have HW:=Aside0.mk hW;have HR2:=Aside0.mk hR2;have HW2:=Aside0.mk hW2;have HWl:=Aside0.mk hwl;have HWm:=Aside0.mk hwm;have HLen:=Aside0.mk (show steps.length≤9223372036854775807 by unfold maxLen at hlen;omega);have HLen1:=Aside0.mk hlen;have hA:=qa (qm w (Af #[Aa Ab op,Ac (ba s),Aa Ab v,Aa Ab t,Ae abs,Ad A1 kids.length c1,Ad A2 steps.length c2] 28)) (Af #[Aa Ab op',Ac (ba s'),Aa Ab v',Aa Ab t',Ae abs',Ad A1' kids'.length c1',Ad A2' steps'.length c2'] 28);have hE:=qm (w.alloc (Af #[Aa Ab op,Ac (ba s),Aa Ab v,Aa Ab t,Ae abs,Ad A1 kids.length c1,Ad A2 steps.length c2] 28)) (Af #[Aa Ab op',Ac (ba s'),Aa Ab v',Aa Ab t',Ae abs',Ad A1' kids'.length c1',Ad A2' steps'.length c2'] 28);rw [show(w.alloc (Af #[Aa Ab op,Ac (ba s),Aa Ab v,Aa Ab t,Ae abs,Ad A1 kids.length c1,Ad A2 steps.length c2] 28)).heap.size=w.heap.size+1 by simp]at hE;have HA2:=Aside0.mk hA;have HE2:=Aside0.mk hE;clear hA hE hq hc hs hR hW hR2 hW2 hwl hwm hlen hlen2 hR0 h_op h_s h_v h_t h_abs h_len;go_enter Tryz.func14,Tryz.ntmps14;go_wp2_with fail
 refine HC.out.mono ?_;rintro e w3 ⟨rfl,b3⟩;have HB3:=Aside0.mk (HB2.out.trans (b3.mono HB2.out.size));have HA3:=Aside0.mk (qk HA2.out b3);have HE3:=Aside0.mk (qk HE2.out b3);clear b3 HA2 HE2 eop eop2 es es2 ev ev2 et et2 eabs eabs2 el el2 el3 el4;go_wp2_with fail
 go_loopg [5] steps.length (fun kq v5 w'=>∃ i:Nat,v5= Aa Ab (i:Int)∧Aside0 (kq+i=steps.length)∧Aside0 (Below w.heap.size w w')∧Aside0 (w'.heap[w.heap.size]?=some (Af #[Aa Ab op,Ac (ba s),Aa Ab v,Aa Ab t,Ae abs,Ad A1 kids.length c1,Ad A2 steps.length c2] 28 (0,0)))∧Aside0 (w'.heap[w.heap.size+1]?=some (Af #[Aa Ab op',Ac (ba s'),Aa Ab v',Aa Ab t',Ae abs',Ad A1' kids'.length c1',Ad A2' steps'.length c2'] 28 (0,0)))∧Aside0 (qd3 (steps.drop i) (steps'.drop i)=R))
 case atStart=>exact⟨0,rfl,⟨rfl⟩,HB3,HA3,HE3,HQs⟩
 case round=>
  obtain⟨i,rfl,HI,HBr,HAr,HEr,HQ⟩:=hrel;clear HQs;have ac6:=(Ai HAr.out 6).trans (show _=some (Ad A2 steps.length c2)from rfl);have bc6:=(Ai HEr.out 6).trans (show _=some (Ad A2' steps'.length c2')from rfl);by_cases hi:i<steps.length
  ·obtain⟨x,hix⟩:∃ x,steps[i]?=some x:=⟨_,AH hi⟩;obtain⟨y,hiy⟩:∃ y,steps'[i]?=some y:=⟨_,AH (by have:=HLm.out;omega)⟩;obtain⟨gx,ax,kx,sx,bx,A1x,n1x,c1x,rfl,hFa,hba,hRx,x0,x1,x2,x3,x4⟩:=Row.st (HR.out.keeps (Keeps.of_below HBr.out)) (HW.out.keeps (Keeps.of_below HBr.out)) i x hix;obtain⟨gz,az,kz,sz,bz,A1z,n1z,c1z,rfl,hFa2,hba2,hRy,y0,y1,y2,y3,y4⟩:=Row.st (HR2.out.keeps (Keeps.of_below HBr.out)) (HW2.out.keeps (Keeps.of_below HBr.out)) i y hiy;have hlt:decide ((i:Int)<(steps.length:Int))=true:=by simp;omega
   have h0i:(0:Int)≤(i:Int):=by omega
   have hil:(i:Int)<(steps.length:Int):=by omega
   have him:(i:Int)<(steps'.length:Int):=by have:=HLm.out;omega
   have hw1:wrap64 ((i:Int)+1)=((i+1:Nat):Int):=by have:=HLen.out;unfold wrap64;omega
   have hQ:=HQ.out;rw [qi11 hi hix hiy]at hQ;have ac6p:=fun o=>(AA wr o _ ((An.1 HAr.out).1)).trans ac6;have ac6q:=fun o o'=>(AA (wr.alloc o) o' _ (by rw [show(wr.alloc o).heap.size=wr.heap.size+1 by simp];exact Nat.lt_succ_of_lt ((An.1 HAr.out).1))).trans (ac6p o);have bc6p:=fun o=>(AA wr o _ ((An.1 HEr.out).1)).trans bc6;have bc6q:=fun o o'=>(AA (wr.alloc o) o' _ (by rw [show(wr.alloc o).heap.size=wr.heap.size+1 by simp];exact Nat.lt_succ_of_lt ((An.1 HEr.out).1))).trans (bc6p o);have x0p:=fun o=>(AA wr o _ ((zm hba))).trans x0;have x0q:=fun o o'=>(AA (wr.alloc o) o' _ zav).trans (x0p o);have y0p:=fun o=>(AA wr o _ ((zl hba2))).trans y0;have y0q:=fun o o'=>(AA (wr.alloc o) o' _ zau).trans (y0p o);have x1p:=fun o=>(AA wr o _ ((zm hba))).trans x1;have x1q:=fun o o'=>(AA (wr.alloc o) o' _ zav).trans (x1p o);have y1p:=fun o=>(AA wr o _ ((zl hba2))).trans y1;have y1q:=fun o o'=>(AA (wr.alloc o) o' _ zau).trans (y1p o);have x2p:=fun o=>(AA wr o _ ((zm hba))).trans x2;have x2q:=fun o o'=>(AA (wr.alloc o) o' _ zav).trans (x2p o);have y2p:=fun o=>(AA wr o _ ((zl hba2))).trans y2;have y2q:=fun o o'=>(AA (wr.alloc o) o' _ zau).trans (y2p o);have x3p:=fun o=>(AA wr o _ ((zm hba))).trans x3;have x3q:=fun o o'=>(AA (wr.alloc o) o' _ zav).trans (x3p o);have y3p:=fun o=>(AA wr o _ ((zl hba2))).trans y3
   have y3q:=fun o o'=>(AA (wr.alloc o) o' _ zau).trans (y3p o);have x4p:=fun o=>(AA wr o _ ((zm hba))).trans x4;have x4q:=fun o o'=>(AA (wr.alloc o) o' _ zav).trans (x4p o);have y4p:=fun o=>(AA wr o _ ((zl hba2))).trans y4;have y4q:=fun o o'=>(AA (wr.alloc o) o' _ zau).trans (y4p o);have KX1:=Aside0.mk (qe (qa (qm wr (Af #[Aa Ab ax,Aa Ab kx,Ac sx,Ae bx,Ad A1x n1x c1x] 73)) (Af #[Aa Ab az,Aa Ab kz,Ac sz,Ae bz,Ad A1z n1z c1z] 73)));have KY1:=Aside0.mk (qe (show((wr.alloc (Af #[Aa Ab ax,Aa Ab kx,Ac sx,Ae bx,Ad A1x n1x c1x] 73)).alloc (Af #[Aa Ab az,Aa Ab kz,Ac sz,Ae bz,Ad A1z n1z c1z] 73)).heap[wr.heap.size+1]?=some (Af #[Aa Ab az,Aa Ab kz,Ac sz,Ae bz,Ad A1z n1z c1z] 73 (0,0)) by have h:=qm (wr.alloc (Af #[Aa Ab ax,Aa Ab kx,Ac sx,Ae bx,Ad A1x n1x c1x] 73)) (Af #[Aa Ab az,Aa Ab kz,Ac sz,Ae bz,Ad A1z n1z c1z] 73);rwa [show(wr.alloc (Af #[Aa Ab ax,Aa Ab kx,Ac sx,Ae bx,Ad A1x n1x c1x] 73)).heap.size=wr.heap.size+1 by simp]at h));have KY2:=Aside0.mk (qe (qa (qm wr (Af #[Aa Ab az,Aa Ab kz,Ac sz,Ae bz,Ad A1z n1z c1z] 73)) (Af #[Aa Ab ax,Aa Ab kx,Ac sx,Ae bx,Ad A1x n1x c1x] 73)));have KX2:=Aside0.mk (qe (show((wr.alloc (Af #[Aa Ab az,Aa Ab kz,Ac sz,Ae bz,Ad A1z n1z c1z] 73)).alloc (Af #[Aa Ab ax,Aa Ab kx,Ac sx,Ae bx,Ad A1x n1x c1x] 73)).heap[wr.heap.size+1]?=some (Af #[Aa Ab ax,Aa Ab kx,Ac sx,Ae bx,Ad A1x n1x c1x] 73 (0,0)) by have h:=qm (wr.alloc (Af #[Aa Ab az,Aa Ab kz,Ac sz,Ae bz,Ad A1z n1z c1z] 73)) (Af #[Aa Ab ax,Aa Ab kx,Ac sx,Ae bx,Ad A1x n1x c1x] 73);rwa [show(wr.alloc (Af #[Aa Ab az,Aa Ab kz,Ac sz,Ae bz,Ad A1z n1z c1z] 73)).heap.size=wr.heap.size+1 by simp]at h));have KB1:=Aside0.mk (Below.drew (((Ao wr.heap.size wr).alloc (Ag _) (Af #[Aa Ab ax,Aa Ab kx,Ac sx,Ae bx,Ad A1x n1x c1x] 73)).alloc (by simp) (Af #[Aa Ab az,Aa Ab kz,Ac sz,Ae bz,Ad A1z n1z c1z] 73)))
   have KB2:=Aside0.mk (Below.drew (((Ao wr.heap.size wr).alloc (Ag _) (Af #[Aa Ab az,Aa Ab kz,Ac sz,Ae bz,Ad A1z n1z c1z] 73)).alloc (by simp) (Af #[Aa Ab ax,Aa Ab kx,Ac sx,Ae bx,Ad A1x n1x c1x] 73)));go_wp2_with fail
   go_cut [6,7] (fun v6 v7 wc=>∃ p q:Nat,v6= .pointer (some ⟨p,0,none⟩)∧v7= .pointer (some ⟨q,0,none⟩)∧Aside0 (wc.heap[p]?=some (Af #[Aa Ab ax,Aa Ab kx,Ac sx,Ae bx,Ad A1x n1x c1x] 73 (0,0)))∧Aside0 (wc.heap[q]?=some (Af #[Aa Ab az,Aa Ab kz,Ac sz,Ae bz,Ad A1z n1z c1z] 73 (0,0)))∧Aside0 (Below wr.heap.size wr wc))
   case first=>
    go_region
    all_goals (go_wp2_with fail;go_meet;refine⟨_,_,rfl,rfl,⟨?_⟩,⟨?_⟩,⟨?_⟩⟩)
    all_goals first | with_reducible exact KX1.out | with_reducible exact KY1.out | with_reducible exact KX2.out | with_reducible exact KY2.out | with_reducible exact KB1.out | with_reducible exact KB2.out
   case rest=>
    obtain⟨p,q,rfl,rfl,HX,HY,HBc⟩:=hcut;have hd:=fun {E:St} {cs:List Value} {F:Nat→Prop} (h:RepX F wr E cs)=>h.keeps (Keeps.of_below HBc.out);replace hRx:=hd hRx;replace hRy:=hd hRy;have HB5:=Aside0.mk (HBr.out.trans (HBc.out.mono HBr.out.size));have HA5:=Aside0.mk (qk HAr.out HBc.out);have HE5:=Aside0.mk (qk HEr.out HBc.out);clear hd KX1 KX2 KY1 KY2 KB1 KB2 hlt h0i hil him ac6 bc6 ac6p ac6q bc6p bc6q x0 x0p x0q y0 y0p y0q x1 x1p x1q y1 y1p y1q x2 x2p x2q y2 y2p y2q x3 x3p x3q y3 y3p y3q x4 x4p x4q y4 y4p y4q;have hmx:x ∈ steps:=Bd hix;have hmy:y ∈ steps':=Bd hiy;have hwx:=qn7 HWl.out hmx;have hwy:=qn7 HWm.out hmy;obtain⟨a1,k1,m1,h1,ps⟩:=x;obtain⟨a2,k2,m2,h2,qs⟩:=y;obtain⟨rfl,rfl,rfl,rfl,rfl,zs,hz1,hz2⟩:=hRx.inv5;obtain⟨rfl,rfl,rfl,rfl,rfl,vs,hv1,hv2⟩:=hRy.inv5;simp only [wfX]at hwx hwy;have hc:=qn14 ps (HS.out _ hmx) qs wc F G A1x c1x A1z c1z zs vs hz1 hz2 hv1 hv2 hwx.2.2.2.2 hwy.2.2.2.2 hwx.2.2.2.1 hwy.2.2.2.1;clear hwx hwy hmx hmy hix hiy hRx hRy hz1 hz2 hv1 hv2 HQ;obtain⟨xc0,xc1,xc2,xc3,xc4⟩:=fc5 HX.out;obtain⟨yc0,yc1,yc2,yc3,yc4⟩:=fc5 HY.out;by_cases g_a:ax=az;rotate_left
    ·rw [show qc3 (.mk ax kx m1 bx ps) (.mk az kz m2 bz qs)=false by simp [qc3,g_a]]at hQ;simp only [Bool.false_and]at hQ;subst hQ;have fa:(ax == az)=false:=by simp [g_a]
     have fa2:(ax !=az)=true:=by simp [g_a]
     clear hc g_a;go_wp2_with fail
     go_ret;exact⟨rfl,HB5.out⟩
    by_cases g_k:kx=kz;rotate_left
    ·rw [show qc3 (.mk ax kx m1 bx ps) (.mk az kz m2 bz qs)=false by simp [qc3,g_k]]at hQ;simp only [Bool.false_and]at hQ;subst hQ;have fa:(ax == az)=true:=by simp [g_a]
     have fa2:(ax !=az)=false:=by simp [g_a]
     have fk:(kx == kz)=false:=by simp [g_k]
     have fk2:(kx !=kz)=true:=by simp [g_k]
     clear hc g_a g_k;go_wp2_with fail
     go_ret;exact⟨rfl,HB5.out⟩
    by_cases g_m:m1=m2;rotate_left
    ·rw [show qc3 (.mk ax kx m1 bx ps) (.mk az kz m2 bz qs)=false by simp [qc3,g_m]]at hQ;simp only [Bool.false_and]at hQ;subst hQ;have fa:(ax == az)=true:=by simp [g_a]
     have fa2:(ax !=az)=false:=by simp [g_a]
     have fk:(kx == kz)=true:=by simp [g_k]
     have fk2:(kx !=kz)=false:=by simp [g_k]
     have fm:((ba m1).toList == (ba m2).toList)=false:=by rw [qm5];simp [g_m]
     have fm2:((ba m1).toList !=(ba m2).toList)=true:=by unfold bne;rw [fm];rfl
     clear hc g_a g_k g_m;go_wp2_with fail
     go_ret;exact⟨rfl,HB5.out⟩
    by_cases g_h:bx=bz;rotate_left
    ·rw [show qc3 (.mk ax kx m1 bx ps) (.mk az kz m2 bz qs)=false by simp [qc3,g_h]]at hQ;simp only [Bool.false_and]at hQ;subst hQ;have fa:(ax == az)=true:=by simp [g_a]
     have fa2:(ax !=az)=false:=by simp [g_a]
     have fk:(kx == kz)=true:=by simp [g_k]
     have fk2:(kx !=kz)=false:=by simp [g_k]
     have fm:((ba m1).toList == (ba m2).toList)=true:=by rw [qm5];simp [g_m]
     have fm2:((ba m1).toList !=(ba m2).toList)=false:=by unfold bne;rw [fm];rfl
     have fh:(bx == bz)=false:=by simp [g_h]
     have fh2:(bx !=bz)=true:=by simp [g_h]
     clear hc g_a g_k g_m g_h;go_wp2_with fail
     go_ret;exact⟨rfl,HB5.out⟩
    have fa:(ax == az)=true:=by simp [g_a]
    have fa2:(ax !=az)=false:=by simp [g_a]
    have fk:(kx == kz)=true:=by simp [g_k]
    have fk2:(kx !=kz)=false:=by simp [g_k]
    have fm:((ba m1).toList == (ba m2).toList)=true:=by rw [qm5];simp [g_m]
    have fm2:((ba m1).toList !=(ba m2).toList)=false:=by unfold bne;rw [fm];rfl
    have fh:(bx == bz)=true:=by simp [g_h]
    have fh2:(bx !=bz)=false:=by simp [g_h]
    rw [show qc3 (.mk ax kx m1 bx ps) (.mk az kz m2 bz qs)=qq1 ps qs by simp [qc3,g_a,g_k,g_m,g_h]]at hQ;clear g_a g_k g_m g_h;generalize qq1 ps qs=B at *
    cases B with
    | false=>
     simp only [Bool.false_and]at hQ;subst hQ;go_wp2_with fail
     refine hc.mono ?_;rintro e w6 ⟨rfl,b6⟩;have HB6:=Aside0.mk (HB5.out.trans (b6.mono HB5.out.size));clear b6 hc;go_wp2_with fail
     go_ret;exact⟨rfl,HB6.out⟩
    | true=>
     simp only [Bool.true_and]at hQ;have HQ9:=Aside0.mk hQ;clear hQ;go_wp2_with fail
     refine hc.mono ?_;rintro e w6 ⟨rfl,b6⟩;have HB6:=Aside0.mk (HB5.out.trans (b6.mono HB5.out.size));have HA6:=Aside0.mk (qk HA5.out b6);have HE6:=Aside0.mk (qk HE5.out b6);clear b6 hc;go_wp2_with fail
     obtain⟨g2,rfl⟩:∃ g2,gk=g2+1:=⟨gk - 1,zax⟩;go_roundg g2
     case measure=>omega
     case rel=>exact⟨i+1,congrArg (Value.int .i64) hw1,⟨zax⟩,HB6,HA6,HE6,HQ9⟩
  ·have hlt:decide ((i:Int)<(steps.length:Int))=false:=by simp;omega
   have hlt2:decide (i<steps.length)=false:=by simp;omega
   have hQ:=HQ.out;rw [qy13 HLm.out hi]at hQ;subst hQ;clear HQ hi;go_wp2_with fail
   go_ret;exact⟨rfl,HBr.out⟩
end Go.Proofs.YtocdckniokhbbaaGreatDoor.Syn
