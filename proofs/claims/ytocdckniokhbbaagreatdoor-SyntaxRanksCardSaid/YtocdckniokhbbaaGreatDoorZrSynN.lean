import Derived.Test.YtocdckniokhbbaaGreatDoorZrZz
import Derived.Test.YtocdckniokhbbaaGreatDoorZrBrkA
import Derived.Test.YtocdckniokhbbaaGreatDoorZrFigI
import Derived.RangeFuncSeq
import Derived.IntWalk
import Derived.Lib.Builder
import Derived.Test.YtocdckniokhbbaaGreatDoorZrSynE
import Derived.Laws.OwnMore
set_option linter.unusedVariables false
set_option linter.unusedSimpArgs false
open Go.RowKit.Below renaming refl→Ao,heap_setCell→AS
open Nat renaming le_refl→Ag,le_of_lt→Ah,lt_of_lt_of_le→AV
open Go.Value renaming int→Aa,string→Ac,bool→Ae,slice→Ad,ownBlock→BK
open Go.IntKind renaming i64→Ab
open List renaming length_append→Aq,length_cons→AE,contains_cons→Bv,cons_append→AJ
open Go.Obj renaming cells→Af
open Array renaming getElem?_eq_some_iff→An
open Go.Proofs.Tryz renaming prog→Am
open Go.Lib renaming frozen_of_heap→Bb
open Go.World renaming cell?_alloc_lt→AA,setCell→Ar
open Go.ByteArray renaming toList_eq→AB
open Option renaming some→Az
set_option maxHeartbeats 4000000
set_option maxRecDepth 100000
namespace Go.Proofs.YtocdckniokhbbaaGreatDoor.LexF
open Go.RowKit Go.Shelf YtocdckniokhbbaaGreatDoorW.PrintWords YtocdckniokhbbaaGreatDoorW.PrintLast YtocdckniokhbbaaGreatDoorW.PrintMore CharB CharD CharF SpanA FigA FigC FigD FigG LexA
def Fr (b B:Nat) (w w':World):Prop:=Below b w w'∧ ∀ k,b<k→k<B→w'.heap[k]?=w.heap[k]?
theorem Fr.refl (b B:Nat) (w:World):Fr b B w w:=⟨Ao _ _,fun _ _ _=>rfl⟩
theorem Fr.trans {b B:Nat} {u v w:World} (h:Fr b B u v) (k:Fr b B v w):Fr b B u w:=⟨h.1.trans k.1,fun i h1 h2=>(k.2 i h1 h2).trans (h.2 i h1 h2)⟩
theorem Fr.of_below {b B C:Nat} {w w':World} (h:Below C w w') (hB:B≤C) (hb:b≤B):Fr b B w w':=⟨h.mono (by omega),fun k _ h2=>h.block k (by omega)⟩
theorem Fr.below {b B:Nat} {u v w:World} (h:Fr b B u v) (hB:B≤u.heap.size) (hb:b≤B) (k:Below v.heap.size v w):Fr b B u w:=h.trans (Fr.of_below k (Nat.le_trans hB h.1.size) hb)
theorem Fr.alloc {b B:Nat} {u v:World} (h:Fr b B u v) (hB:B≤u.heap.size) (hb:b≤B) (o:Obj):Fr b B u (v.alloc o):=h.below hB hb ((Ao _ _).alloc (Ag _) o)
theorem Fr.drew {b B:Nat} {u v:World} (h:Fr b B u v):Fr b B u v.drew:=⟨Below.drew h.1,h.2⟩
theorem Fr.drewN {b B:Nat} {u v:World} (h:Fr b B u v) (n:Nat):Fr b B u (v.drewN n):=⟨CharB.below_drewN h.1 n,h.2⟩
theorem Fr.set {b B:Nat} {u v:World} (h:Fr b B u v) {g:Nat} (hg:g=b∨B≤g) (hb:b≤B) (j:Nat) (x:Value):Fr b B u (v.setCell ⟨g,j,none⟩ x):=by
 refine⟨h.1.setCell (p:=⟨g,j,none⟩) (by show b≤g;omega) x,fun k h1 h2=>?_⟩;rw [AS _ _ _ k (by show k≠g;omega)];exact h.2 k h1 h2
theorem Fr.grown {b B:Nat} {u v w:World} (h:Fr b B u v) {row:Option Nat} (hg:v.grownBy w row) (hB:B≤u.heap.size) (hb:b≤B) (hr:∀ g,row=some g→B≤g):Fr b B u w:=by
 have hB':=Nat.le_trans hB h.1.size;refine⟨h.1.grown hg (by omega) (fun g e=>Nat.le_trans hb (hr g e)),fun k h1 h2=>?_⟩;rw [hg.block k (by omega) (fun e=>by have:=hr k e.symm;omega)];exact h.2 k h1 h2
def wc (w:Wd):List Value:=[Aa Ab w.1,Ac (ba w.2.1),Aa Ab w.2.2.1,Aa Ab w.2.2.2]
def wcs (l:List Wd):List Value:=l.flatMap wc
theorem qp5 (l:List Wd):(wcs l).length=l.length*4:=by
 induction l with
 | nil=>rfl
 | cons w l ih=>simp only [wcs,List.flatMap_cons,Aq,AE]at ih ⊢;rw [ih];simp [wc];omega
theorem qo7 (l m:List Wd):wcs (l ++ m)=wcs l ++ wcs m:=by simp [wcs]
theorem qf9 (w:Wd):wcs [w]=wc w:=by simp [wcs]
def LB (b B:Nat) (s:ByteArray) (l:List Wd) (x:Bool) (W:World):Prop:=
 ∃ v,W.heap[b]?=some (Af #[Ac s,v,Ae x] 90 (0,0))∧W.ownsRow B 93 4 v l.length (wcs l)
theorem LB.lt {b B:Nat} {s:ByteArray} {l:List Wd} {x:Bool} {W:World} (h:LB b B s l x W):b<W.heap.size:=by obtain⟨v,h1,_⟩:=h;exact(An.1 h1).1
theorem LB.drew {b B:Nat} {s:ByteArray} {l:List Wd} {x:Bool} {W:World} (h:LB b B s l x W):LB b B s l x W.drew:=h
theorem LB.drewN {b B:Nat} {s:ByteArray} {l:List Wd} {x:Bool} {W:World} (h:LB b B s l x W) (n:Nat):LB b B s l x (W.drewN n):=h
theorem qf4 {B:Nat} {v:Value} {n:Nat} {xs:List Value} {t:TypeId} {m:Nat} {W W':World} (h:W.ownsRow B t m v n xs) (hb:Below W.heap.size W W'):W'.ownsRow B t m v n xs:=by
 refine⟨h.1,?_⟩
 rcases h.2 with hn | ⟨g,cap,cur,rfl,hB,hg,r⟩
 ·exact .inl hn
 ·refine .inr ⟨g,cap,cur,rfl,hB,?_,r⟩;rw [hb.block g (An.1 hg).1];exact hg
theorem LB.below {b B:Nat} {s:ByteArray} {l:List Wd} {x:Bool} {W W':World} (h:LB b B s l x W) (hb:Below W.heap.size W W'):LB b B s l x W':=by
 obtain⟨v,h1,h2⟩:=h;exact⟨v,(hb.block b (An.1 h1).1).trans h1,qf4 h2 hb⟩
def qn1 (b:Nat):Value:= .pointer (some ⟨b,0,none⟩)
theorem qp8 {b B:Nat} (hb:b<B) {v:Value} {n:Nat} {xs:List Value} {t:TypeId} {m:Nat} {W:World} (h:W.ownsRow B t m v n xs):v.ownBlock≠some b:=fun e=>by have:=(h.lt b e).1;omega
theorem qe7 {B:Nat} {v:Value} {n:Nat} {xs:List Value} {t:TypeId} {m:Nat} {W:World} (h:W.ownsRow B t m v n xs):∀ g,v.ownBlock=some g→B≤g:=fun g e=>(h.lt g e).1
theorem qr2 (W:World) (b j:Nat) (v:Value):W.grownBy (W.setCell ⟨b,j,none⟩ v) (some b):=
 ⟨rfl,rfl,rfl,(KeepsWalks.setCell W _ v).size,fun k _ hk=>AS _ _ _ k (fun e=>hk (by rw [e]))⟩
theorem ql11 {W:World} {b:Nat} {cs:Array Value} {t:TypeId} (h:W.heap[b]?=some (Af cs t (0,0))) (j:Nat) (u:Value):(W.setCell ⟨b,j,none⟩ u).heap[b]?=some (Af (cs.setIfInBounds j u) t (0,0)):=by
 obtain⟨hlt,hk⟩:=An.1 h;show(W.heap.modify b _)[b]?=_;rw [Array.getElem?_eq_getElem (by rw [Array.size_modify];exact hlt),Array.getElem_modify_self,hk];rfl
theorem LB.put_s {b B:Nat} (hb:b<B) {s s':ByteArray} {l:List Wd} {x:Bool} {W:World} (h:LB b B s l x W):LB b B s' l x (W.setCell ⟨b,0,none⟩ (Ac s')):=by
 obtain⟨v,h1,h2⟩:=h;exact⟨v,ql11 h1 0 _,h2.kept (qr2 W b 0 _) (.inr (qp8 hb h2))⟩
theorem LB.put_x {b B:Nat} (hb:b<B) {s:ByteArray} {l:List Wd} {x y:Bool} {W:World} (h:LB b B s l x W):LB b B s l y (W.setCell ⟨b,2,none⟩ (Ae y)):=by
 obtain⟨v,h1,h2⟩:=h;exact⟨v,ql11 h1 2 _,h2.kept (qr2 W b 2 _) (.inr (qp8 hb h2))⟩
theorem qs3 (b B:Nat) (s:ByteArray) (l:List Wd) (w:World) (h:LB b B s l false w) (hb:b<B) :
  Calls Am 51 #[qn1 b] w fun e w'=>e= .returned (Ae true)∧LB b B s l true w'∧Fr b B w w':=by
 have h2:=Aside0.mk (h.put_x (y:=true) hb);have hf:=Aside0.mk ((Fr.refl b B w).set (.inl rfl) (Ah hb) 2 (Ae true));obtain⟨v,h1,_⟩:=h;have f2:w.frozen? ⟨b,2,none⟩=false:=Bb h1 2;have c2:w.cell? ⟨b,2,none⟩=some (Ae false):=by rw [qu h1];rfl
 clear h1;unfold qn1;go_enter Tryz.func51,Tryz.ntmps51;go_wp2_with fail
 go_ret;exact⟨rfl,h2.out,hf.out⟩
theorem infoW:(Tryz.prog.info? 93).map (fun i=>(i.zero,i.size,i.bytes))=some (some (.agg #[Aa Ab 0,Ac ⟨#[]⟩,Aa Ab 0,Aa Ab 0]),4,40):=by kernel_rfl
theorem qg2 {w:World} {B:Nat} {t:TypeId} {m n:Nat} {v:Value} {xs:List Value} (h:w.ownsRow B t m v (n+1) xs):∃ g cap,v= Ad (some ⟨g,0,none⟩) (n+1) cap:=by
 rcases h.2 with ⟨_,h0⟩ | ⟨g,cap,cur,rfl,_⟩
 ·omega
 ·exact⟨g,cap,rfl⟩
theorem qu7 (w:World) (cs:Array Value) (t:TypeId):∀ j u,cs.toList[j]?=some u→(w.alloc (Af cs t)).cell? ((⟨w.heap.size,0,none⟩:Addr).add j)=some u:=by
 intro j u hu;rw [show(⟨w.heap.size,0,none⟩:Addr).add j=⟨w.heap.size,j,none⟩ by unfold Addr.add;split<;>simp_all,qu (qm w _) j];simpa using hu
def Oth (b:Nat) (w w':World):Prop:=∀ k cs t,w.heap[k]?=some (Af cs t (0,0))→t≠93→k≠b→w'.heap[k]?=some (Af cs t (0,0))
theorem qz6 (b B:Nat) (s:ByteArray) (l:List Wd) (k:Int) (t r:ByteArray) (w:World) (h:LB b B s l false w) (hb:b<B) (hB:B≤w.heap.size) (hl:l.length≤1000) :
  Calls Am 88 #[qn1 b,Aa Ab k,Ac t,Ac r] w fun e w'=>e= .returned (Ae true)∧LB b B r (l ++ [(k,t.data.toList,0,0)]) false w'∧Fr b B w w'∧Oth b w w':=by
 obtain⟨i0,hi,hz0,hz1,hz2⟩:=info_parts infoW;have HF:=Aside0.mk (Fr.refl b B w);obtain⟨v,h1,ho⟩:=h;have hlt:b<w.heap.size:=(An.1 h1).1;have c1:w.cell? ⟨b,1,none⟩=some v:=by rw [qu h1];rfl
 have hne:=qp8 hb ho;unfold qn1;go_enter Tryz.func88,Tryz.ntmps88;go_wp2_with (at_builtin;refine wpList_append_own _ rfl _ _ 53 rfl B 93 i0 (.agg #[Aa Ab 0,Ac ⟨#[]⟩,Aa Ab 0,Aa Ab 0]) 4 40 Tryz.underlying53 hi hz0 hz1 hz2 rfl (by decide) _ _ _ rfl (ho.alloc _) ⟨w.heap.size,0,none⟩ 1 1 [Aa Ab k,Ac t,Aa Ab 0,Aa Ab 0] rfl rfl ?c1 ?c2 ?c3 ?c4 ?c5 ?_)
 case c1=>exact qu7 w #[Aa Ab k,Ac t,Aa Ab 0,Aa Ab 0] _
 case c2=>intro u hu;simp at hu;rcases hu with rfl | rfl | rfl | rfl<;>rfl
 case c3=>unfold maxLen;omega
 case c4=>omega
 case c5=>simp;omega
 intro v' w2 hown' hgrow _
 have hb2:w2.heap[b]?=some (Af #[Ac s,v,Ae false] 90 (0,0)):=by
  rw [hgrow.block b za6 (fun e=>hne e.symm),Lib.alloc_old w _ b hlt];exact h1
 have d2:w2.cell? ⟨b,1,none⟩=some v:=by rw [qu hb2];rfl
 have d0:w2.cell? ⟨b,0,none⟩=some (Ac s):=by rw [qu hb2];rfl
 have f2:w2.frozen? ⟨b,1,none⟩=false:=Bb hb2 1;have f3:w2.frozen? ⟨b,0,none⟩=false:=Bb hb2 0;obtain⟨g,cap,rfl⟩:=qg2 hown';have hne2:=qp8 hb hown';have hge:=qe7 ho;have hF2:=(HF.out.alloc hB (Ah hb) (Af #[Aa Ab k,Ac t,Aa Ab 0,Aa Ab 0] 93)).grown hgrow hB (Ah hb) hge;have HF3:=Aside0.mk ((hF2.set (.inl rfl) (Ah hb) 1 (Ad (some ⟨g,0,none⟩) (l.length+1) cap)).set (.inl rfl) (Ah hb) 0 (Ac r));have e4:wcs l ++ [Aa Ab k,Ac t,Aa Ab 0,Aa Ab 0]=wcs (l ++ [(k,t.data.toList,0,0)]):=by rw [qo7,qf9];rfl
 rw [e4]at hown'
 have HL:Aside0 (LB b B r (l ++ [(k,t.data.toList,0,0)]) false ((w2.setCell ⟨b,1,none⟩ (Ad (some ⟨g,0,none⟩) (l.length+1) cap)).setCell ⟨b,0,none⟩ (Ac r))):=
  ⟨_,ql11 (ql11 hb2 1 _) 0 (Ac r),by rw [Aq];exact(hown'.kept (qr2 w2 b 1 _) (.inr hne2)).kept (qr2 _ b 0 _) (.inr hne2)⟩
 have HO:Aside0 (Oth b w ((w2.setCell ⟨b,1,none⟩ (Ad (some ⟨g,0,none⟩) (l.length+1) cap)).setCell ⟨b,0,none⟩ (Ac r))):=⟨by
  intro k cs t0 hk ht hkb;have hkl:k<w.heap.size:=(An.1 hk).1
  rw [AS _ _ _ k hkb,AS _ _ _ k hkb,hgrow.block k za6 (fun e=>by
   rcases ho.2 with ⟨rfl,_⟩ | ⟨g',cap',cur,rfl,_,hg',_⟩
   ·simp [BK]at e
   ·obtain rfl:g'=k:=by simpa [BK]using e.symm
    rw [hk]at hg'
    cases hg'
    exact ht rfl),Lib.alloc_old w _ k hkl]
  exact hk⟩
 clear hne hge hne2 hgrow hown' ho h1 c1 hF2 e4 hb2;go_wp2_with fail
 go_ret;exact⟨rfl,HL.out,HF3.out,HO.out⟩
theorem qa6 (b B:Nat) (s:ByteArray) (l:List Wd) (k:Int) (t r:ByteArray) (w:World) (h:LB b B s l false w) (hb:b<B) (hB:B≤w.heap.size) (hl:l.length≤1000) :
  Calls Am 88 #[qn1 b,Aa Ab k,Ac t,Ac r] w fun e w'=>e= .returned (Ae true)∧LB b B r (l ++ [(k,t.data.toList,0,0)]) false w'∧Fr b B w w':=
 (qz6 b B s l k t r w h hb hB hl).mono fun e w' ⟨h1,h2,h3,_⟩=>⟨h1,h2,h3⟩
theorem qn3 {w:World} {B:Nat} {t:TypeId} {m n:Nat} {v:Value} {xs:List Value} (h:w.ownsRow B t m v n xs):∃ A cap,v= Ad A n cap:=by
 rcases h.2 with ⟨rfl,rfl⟩ | ⟨g,cap,cur,rfl,_⟩
 ·exact⟨none,0,rfl⟩
 ·exact⟨some ⟨g,0,none⟩,cap,rfl⟩
theorem qu2 {w:World} {B:Nat} {t:TypeId} {l:List Wd} {x:Wd} {g cap:Nat} (h:w.ownsRow B t 4 (Ad (some ⟨g,0,none⟩) (l.length+1) cap) (l.length+1) (wcs (l ++ [x]))):∀ i u,(wc x)[i]?=some u→w.cell? ⟨g,l.length*4+i,none⟩=some u:=by
 intro i u hu;have:=h.cells (g:=g) rfl (l.length*4+i) u (by rw [qo7,List.getElem?_append_right (by rw [qp5];omega),qp5,qf9,Nat.add_sub_cancel_left];exact hu)
 rwa [show(⟨g,0,none⟩:Addr).add (l.length*4+i)=⟨g,l.length*4+i,none⟩ by unfold Addr.add;split<;>simp_all]at this
theorem qa17 (x:List UInt8):(!opensL.contains x)=(!x == [64] && !x == [58,58] && !x == [40] && !x == [91] && !x == [44]):=by
 unfold opensL;simp only [Bv,List.contains_nil,Bool.not_or,Bool.or_false,Bool.and_assoc]
theorem qg22 (b B:Nat) (s:ByteArray) (w:World) (h:LB b B s [] false w) :
  Calls Am 92 #[qn1 b] w fun e w'=>e= .returned (Ae false)∧Below w.heap.size w w':=by
 obtain⟨v,h1,ho⟩:=h;obtain⟨A,cap,rfl⟩:=qn3 ho;have c1:w.cell? ⟨b,1,none⟩=some (Ad A (List.length ([]:List Wd)) cap):=by rw [qu h1];rfl
 have c1:w.cell? ⟨b,1,none⟩=some (Ad A 0 cap):=c1;clear h1 ho;unfold qn1;go_enter Tryz.func92,Tryz.ntmps92;go_wp2_with fail
 go_ret;exact⟨rfl,Ao _ _⟩
theorem qf22 (b B:Nat) (s:ByteArray) (l:List Wd) (k:Int) (t:ByteArray) (d1 d2:Int) (w:World) (h:LB b B s (l ++ [(k,t.data.toList,d1,d2)]) false w) (hl:l.length≤1000) :
  Calls Am 92 #[qn1 b] w fun e w'=>e= .returned (Ae (qi2 (l ++ [(k,t.data.toList,d1,d2)])))∧Below w.heap.size w w':=by
 obtain⟨v,h1,ho⟩:=h;rw [Aq]at ho;obtain⟨g,cap,rfl⟩:=qg2 ho;have c1:w.cell? ⟨b,1,none⟩=some (Ad (some ⟨g,0,none⟩) (l.length+1) cap):=by rw [qu h1];rfl
 have hc:=qu2 ho;have x0:w.cell? ⟨g,l.length*4,none⟩=some (Aa Ab k):=hc 0 _ rfl;have x1:w.cell? ⟨g,l.length*4+1,none⟩=some (Ac t):=hc 1 _ rfl;have x2:w.cell? ⟨g,l.length*4+2,none⟩=some (Aa Ab d1):=hc 2 _ rfl;have x3:w.cell? ⟨g,l.length*4+3,none⟩=some (Aa Ab d2):=hc 3 _ rfl;have hbl:b<w.heap.size:=(An.1 h1).1;have hgl:g<w.heap.size:=(ho.lt g rfl).2;have al:∀ (p:Addr) (u:Value),p.block<w.heap.size→w.cell? p=some u→(w.alloc (Af #[Aa Ab 0,Ac ⟨#[]⟩,Aa Ab 0,Aa Ab 0] 93)).cell? p=some u:=fun p u hp hu=>(AA w _ p hp).trans hu;have a1:=al _ _ hbl c1;have y0:=al _ _ hgl x0;have y1:=al _ _ hgl x1;have y2:=al _ _ hgl x2;have y3:=al _ _ hgl x3;have hwr:IntKind.i64.wrap (l.length:Int)=(l.length:Int):=IntWalk.i64_in _ (by omega);clear hc ho h1 al hbl hgl;have he:qi2 (l ++ [(k,t.data.toList,d1,d2)])=if k=5 then false else if k=1 then !(opensL.contains t.data.toList)else true:=by unfold qi2;rw [List.getLast?_concat]
 rw [he];have hB:=Aside0.mk (Ao w.heap.size w);unfold qn1;by_cases k5:k=5
 ·have q5:(k == 5)=true:=by simpa using k5
  rw [if_pos k5];clear k5 he;go_enter Tryz.func92,Tryz.ntmps92;go_wp2_with fail
  go_region
  all_goals
   go_wp2_with fail
   go_ret;refine⟨rfl,?_⟩;exact Below.drew (hB.out.alloc (Ag _) _)
 have q5:(k == 5)=false:=by simpa using k5
 rw [if_neg k5];by_cases k1:k=1
 ·have q1:(k !=1)=false:=by simpa using k1
  rw [if_pos k1,← AB t];clear k5 k1 he;obtain⟨r,hr⟩:∃ r,(!opensL.contains t.toList)=r:=⟨_,rfl⟩;rw [hr];have HR:=Aside0.mk hr;clear hr;go_enter Tryz.func92,Tryz.ntmps92;go_wp2_with fail
  go_region
  all_goals
   go_wp2_with fail
   all_goals
    go_ret;refine⟨congrArg (fun x=>Ending.returned (Value.bool x)) ?_,?_⟩
    ·first | (rw [← HR.out,qa17];done) | (rw [← HR.out,qa17];simp [*];done)
    ·exact Below.drew (hB.out.alloc (Ag _) _)
 ·have q1:(k !=1)=true:=by simpa using k1
  rw [if_neg k1];clear k5 k1 he;go_enter Tryz.func92,Tryz.ntmps92;go_wp2_with fail
  go_region
  all_goals
   go_wp2_with fail
   go_ret;refine⟨rfl,?_⟩;exact Below.drew (hB.out.alloc (Ag _) _)
theorem qs14 (b B:Nat) (s:ByteArray) (l:List Wd) (w:World) (h:LB b B s l false w) (hl:l.length≤1000) :
  Calls Am 92 #[qn1 b] w fun e w'=>e= .returned (Ae (qi2 l))∧Below w.heap.size w w':=by
 rcases List.eq_nil_or_concat l with rfl | ⟨l0,⟨k,t,d1,d2⟩,rfl⟩
 ·exact qg22 b B s w h
 ·rw [List.concat_eq_append]at h hl ⊢;exact qf22 b B s l0 k (ba t) d1 d2 w h (by simp at hl;omega)
theorem qs20 {w:World} {B:Nat} {t:TypeId} {m n g cap:Nat} {xs:List Value} (h:w.ownsRow B t m (Ad (some ⟨g,0,none⟩) n cap) n xs) (j:Nat) (u:Value) :
  (w.setCell ⟨g,j,none⟩ u).ownsRow B t m (Ad (some ⟨g,0,none⟩) n cap) n (xs.set j u):=by
 refine⟨by rw [List.length_set];exact h.1,?_⟩
 rcases h.2 with ⟨h0,_⟩ | ⟨g',cap',cur,hv,hB,hg,hn,hc,hs,ht⟩
 ·cases h0
 ·cases hv
  refine .inr ⟨g,cap,cur.setIfInBounds j u,rfl,hB,ql11 hg j u,hn,hc,by rw [Array.size_setIfInBounds];exact hs,?_⟩;rw [Array.toList_setIfInBounds,List.take_set,ht]
theorem qz23 (l:List Wd) (k:Int) (t:List UInt8) (d1 d2:Int):((wcs (l ++ [(k,t,0,0)])).set (l.length*4+2) (Aa Ab d1)).set (l.length*4+3) (Aa Ab d2)=wcs (l ++ [(k,t,d1,d2)]):=by
 rw [qo7,qo7,qf9,qf9,List.set_append_right _ _ (by rw [qp5];omega),qp5,Nat.add_sub_cancel_left,List.set_append_right _ _ (by rw [qp5];omega),qp5,Nat.add_sub_cancel_left];rfl
theorem LB.put_n {b B:Nat} (hb:b<B) {s:ByteArray} {l:List Wd} {k:Int} {t:List UInt8} {W:World} {g cap:Nat} (d1 d2:Int) (h1:W.heap[b]?=some (Af #[Ac s,Ad (some ⟨g,0,none⟩) (l.length+1) cap,Ae false] 90 (0,0)))
  (h2:W.ownsRow B 93 4 (Ad (some ⟨g,0,none⟩) (l.length+1) cap) (l.length+1) (wcs (l ++ [(k,t,0,0)]))) :
  LB b B s (l ++ [(k,t,d1,d2)]) false ((W.setCell ⟨g,l.length*4+2,none⟩ (Aa Ab d1)).setCell ⟨g,l.length*4+3,none⟩ (Aa Ab d2)):=by
 have hgB:=(h2.lt g rfl).1;refine⟨.slice (some ⟨g,0,none⟩) (l.length+1) cap,?_,?_⟩
 ·rw [AS _ _ _ b (by show b≠g;omega),AS _ _ _ b (by show b≠g;omega)];exact h1
 ·rw [← qz23,Aq];exact qs20 (qs20 h2 _ _) _ _
end Go.Proofs.YtocdckniokhbbaaGreatDoor.LexF
namespace Go.Proofs.YtocdckniokhbbaaGreatDoor.LexF
open Go.RowKit Go.Shelf YtocdckniokhbbaaGreatDoorW.PrintWords YtocdckniokhbbaaGreatDoorW.PrintLast YtocdckniokhbbaaGreatDoorW.PrintMore CharB SpanA FigD LexA
theorem Fr.lift {p B B':Nat} {w w':World} (h:Fr p B w w') (hB:B'≤B) (hp:p≤B'):Fr p B' w w':=⟨h.1,fun k h1 h2=>h.2 k h1 (by omega)⟩
theorem Fr.chain {p N:Nat} {w W W':World} (h:Fr p N w W) (k:Fr p W.heap.size W W') (hN:N≤W.heap.size) (hp:p≤N):Fr p N w W':=h.trans (k.lift hN hp)
theorem Fr.get {p b:Nat} {W W':World} {o:Obj} (k:Fr p W.heap.size W W') (hb:W.heap[b]?=some o) (hne:b≠p):W'.heap[b]?=some o:=by
 have hlt:=(An.1 hb).1
 rcases Nat.lt_or_gt_of_ne hne with h | h
 ·exact(k.1.block b h).trans hb
 ·exact(k.2 b h hlt).trans hb
end Go.Proofs.YtocdckniokhbbaaGreatDoor.LexF
namespace Go.Proofs.YtocdckniokhbbaaGreatDoor.Syn
open Go.RowKit Go.Shelf YtocdckniokhbbaaGreatDoorW.PrintWords YtocdckniokhbbaaGreatDoorW.PrintLast YtocdckniokhbbaaGreatDoorW.PrintMore CharB SpanA FigD LexA LexF
def Row (F:Nat→Prop) (w:World) (A:Option Addr) (xs:List Value):Prop:=∀ j u,xs[j]?=some u→ ∃ a,A=some a∧F a.block∧a.block<w.heap.size∧w.cell? (a.add j)=some u
mutual
def RepE (F:Nat→Prop) (w:World):Ex→List Value→Prop
 | .mk op s v t abs kids steps,cs=>∃ K S,cs= [Aa Ab op,Ac (ba s),Aa Ab v,Aa Ab t,Ae abs,K,S] ∧
   (∃ A cap xs,K= Ad A kids.length cap∧kids.length≤cap∧RepR F w kids xs∧Row F w A xs)∧(∃ A cap xs,S= Ad A steps.length cap∧steps.length≤cap∧RepT F w steps xs∧Row F w A xs)
def RepR (F:Nat→Prop) (w:World):List Ex→List Value→Prop
 | [],xs=>xs= []
 | e :: l,xs=>∃ cs ys,xs=cs ++ ys∧RepE F w e cs∧RepR F w l ys
def RepX (F:Nat→Prop) (w:World):St→List Value→Prop
 | .mk axis kind name has preds,cs=>∃ K,cs= [Aa Ab axis,Aa Ab kind,Ac (ba name),Ae has,K] ∧
   (∃ A cap xs,K= Ad A preds.length cap∧preds.length≤cap∧RepR F w preds xs∧Row F w A xs)
def RepT (F:Nat→Prop) (w:World):List St→List Value→Prop
 | [],xs=>xs= []
 | e :: l,xs=>∃ cs ys,xs=cs ++ ys∧RepX F w e cs∧RepT F w l ys
end
def Keeps (F:Nat→Prop) (w w':World):Prop:=w.heap.size≤w'.heap.size∧ ∀ k,F k→k<w.heap.size→w'.heap[k]?=w.heap[k]?
theorem Keeps.of_fr {F:Nat→Prop} {p B N:Nat} {w w':World} (h:Fr p B w w') (hB:w.heap.size≤B) (hF:∀ k,F k→N≤k) (hp:p<N):Keeps F w w':=⟨h.1.size,fun k h1 h2=>h.2 k (by have:=hF k h1;omega) (by omega)⟩
theorem Keeps.of_below {F:Nat→Prop} {w w':World} (h:Below w.heap.size w w'):Keeps F w w':=⟨h.size,fun k _ h2=>h.block k h2⟩
theorem Keeps.of_set {F:Nat→Prop} (w:World) {b:Nat} (j:Nat) (v:Value) (hb:¬ F b):Keeps F w (w.setCell ⟨b,j,none⟩ v):=⟨by simp [Ar],fun k h1 h2=>AS w ⟨b,j,none⟩ v k (fun e=>hb (by have e2:k=b:=e;rw [← e2];exact h1))⟩
theorem Keeps.of_grown {F:Nat→Prop} {w w':World} {row:Option Nat} (h:w.grownBy w' row) (hs:w.heap.size≤w'.heap.size) (hr:∀ g,row=some g→¬ F g):Keeps F w w':=⟨hs,fun k h1 h2=>h.block k h2 (fun e=>hr k e.symm h1)⟩
theorem Row.keeps {F:Nat→Prop} {w w':World} (hk:Keeps F w w') {A:Option Addr} {xs:List Value} (h:Row F w A xs):Row F w' A xs:=by
 intro j u hu;obtain⟨a,rfl,h1,h2,h3⟩:=h j u hu;refine⟨a,rfl,h1,AV h2 hk.1,?_⟩;have hb:(a.add j).block=a.block:=by unfold Addr.add;split<;>rfl
 rw [World.cell?_of_block (w:=w) (hk.2 _ (by rw [hb];exact h1) (by rw [hb];exact h2))];exact h3
theorem Row.mono {F G:Nat→Prop} {w:World} (hFG:∀ k,F k→G k) {A:Option Addr} {xs:List Value} (h:Row F w A xs):Row G w A xs:=fun j u hu=>by
 obtain⟨a,rfl,h1,h2,h3⟩:=h j u hu;exact⟨a,rfl,hFG _ h1,h2,h3⟩
mutual
theorem RepE.keeps {F:Nat→Prop} {w w':World} (hk:Keeps F w w'):∀ {e:Ex} {cs:List Value},RepE F w e cs→RepE F w' e cs
 | .mk _ _ _ _ _ kids steps,cs,h=>by
  simp only [RepE]at h ⊢;obtain⟨K,S,h1,⟨A,c,xs,h2,h3,h4,h5⟩,⟨A',c',xs',g2,g3,g4,g5⟩⟩:=h;exact⟨K,S,h1,⟨A,c,xs,h2,h3,RepR.keeps hk h4,Row.keeps hk h5⟩,⟨A',c',xs',g2,g3,RepT.keeps hk g4,Row.keeps hk g5⟩⟩
theorem RepR.keeps {F:Nat→Prop} {w w':World} (hk:Keeps F w w'):∀ {l:List Ex} {xs:List Value},RepR F w l xs→RepR F w' l xs
 | [],xs,h=>h
 | e :: l,xs,h=>by
  simp only [RepR]at h ⊢;obtain⟨cs,ys,h1,h2,h3⟩:=h;exact⟨cs,ys,h1,RepE.keeps hk h2,RepR.keeps hk h3⟩
theorem RepX.keeps {F:Nat→Prop} {w w':World} (hk:Keeps F w w'):∀ {e:St} {cs:List Value},RepX F w e cs→RepX F w' e cs
 | .mk _ _ _ _ preds,cs,h=>by
  simp only [RepX]at h ⊢;obtain⟨K,h1,A,c,xs,h2,h3,h4,h5⟩:=h;exact⟨K,h1,A,c,xs,h2,h3,RepR.keeps hk h4,Row.keeps hk h5⟩
theorem RepT.keeps {F:Nat→Prop} {w w':World} (hk:Keeps F w w'):∀ {l:List St} {xs:List Value},RepT F w l xs→RepT F w' l xs
 | [],xs,h=>h
 | e :: l,xs,h=>by
  simp only [RepT]at h ⊢;obtain⟨cs,ys,h1,h2,h3⟩:=h;exact⟨cs,ys,h1,RepX.keeps hk h2,RepT.keeps hk h3⟩
end
mutual
theorem RepE.mono {F G:Nat→Prop} {w:World} (hFG:∀ k,F k→G k):∀ {e:Ex} {cs:List Value},RepE F w e cs→RepE G w e cs
 | .mk _ _ _ _ _ kids steps,cs,h=>by
  simp only [RepE]at h ⊢;obtain⟨K,S,h1,⟨A,c,xs,h2,h3,h4,h5⟩,⟨A',c',xs',g2,g3,g4,g5⟩⟩:=h;exact⟨K,S,h1,⟨A,c,xs,h2,h3,RepR.mono hFG h4,Row.mono hFG h5⟩,⟨A',c',xs',g2,g3,RepT.mono hFG g4,Row.mono hFG g5⟩⟩
theorem RepR.mono {F G:Nat→Prop} {w:World} (hFG:∀ k,F k→G k):∀ {l:List Ex} {xs:List Value},RepR F w l xs→RepR G w l xs
 | [],xs,h=>h
 | e :: l,xs,h=>by
  simp only [RepR]at h ⊢;obtain⟨cs,ys,h1,h2,h3⟩:=h;exact⟨cs,ys,h1,RepE.mono hFG h2,RepR.mono hFG h3⟩
theorem RepX.mono {F G:Nat→Prop} {w:World} (hFG:∀ k,F k→G k):∀ {e:St} {cs:List Value},RepX F w e cs→RepX G w e cs
 | .mk _ _ _ _ preds,cs,h=>by
  simp only [RepX]at h ⊢;obtain⟨K,h1,A,c,xs,h2,h3,h4,h5⟩:=h;exact⟨K,h1,A,c,xs,h2,h3,RepR.mono hFG h4,Row.mono hFG h5⟩
theorem RepT.mono {F G:Nat→Prop} {w:World} (hFG:∀ k,F k→G k):∀ {l:List St} {xs:List Value},RepT F w l xs→RepT G w l xs
 | [],xs,h=>h
 | e :: l,xs,h=>by
  simp only [RepT]at h ⊢;obtain⟨cs,ys,h1,h2,h3⟩:=h;exact⟨cs,ys,h1,RepX.mono hFG h2,RepT.mono hFG h3⟩
end
theorem RepE.len {F:Nat→Prop} {w:World} {e:Ex} {cs:List Value} (h:RepE F w e cs):cs.length=7:=by
 cases e;simp only [RepE]at h;obtain⟨K,S,rfl,_⟩:=h;rfl
theorem RepX.len {F:Nat→Prop} {w:World} {e:St} {cs:List Value} (h:RepX F w e cs):cs.length=5:=by
 cases e;simp only [RepX]at h;obtain⟨K,rfl,_⟩:=h;rfl
theorem RepR.len {F:Nat→Prop} {w:World}:∀ {l:List Ex} {xs:List Value},RepR F w l xs→xs.length=l.length*7
 | [],xs,h=>by simp only [RepR]at h;subst h;rfl
 | e :: l,xs,h=>by
  simp only [RepR]at h;obtain⟨cs,ys,rfl,h2,h3⟩:=h;rw [Aq,h2.len,RepR.len h3,AE];omega
theorem RepR.app {F:Nat→Prop} {w:World}:∀ {l m:List Ex} {xs ys:List Value},RepR F w l xs→RepR F w m ys→RepR F w (l ++ m) (xs ++ ys)
 | [],m,xs,ys,h,k=>by simp only [RepR]at h;subst h;exact k
 | e :: l,m,xs,ys,h,k=>by
  simp only [AJ,RepR]at h ⊢;obtain⟨cs,zs,rfl,h2,h3⟩:=h;exact⟨cs,zs ++ ys,by simp,h2,RepR.app h3 k⟩
theorem RepT.app {F:Nat→Prop} {w:World}:∀ {l m:List St} {xs ys:List Value},RepT F w l xs→RepT F w m ys→RepT F w (l ++ m) (xs ++ ys)
 | [],m,xs,ys,h,k=>by simp only [RepT]at h;subst h;exact k
 | e :: l,m,xs,ys,h,k=>by
  simp only [AJ,RepT]at h ⊢;obtain⟨cs,zs,rfl,h2,h3⟩:=h;exact⟨cs,zs ++ ys,by simp,h2,RepT.app h3 k⟩
theorem RepR.one {F:Nat→Prop} {w:World} {e:Ex} {cs:List Value} (h:RepE F w e cs):RepR F w [e] cs:=by
 simp only [RepR];exact⟨cs,[],by simp,h,rfl⟩
theorem RepT.one {F:Nat→Prop} {w:World} {e:St} {cs:List Value} (h:RepX F w e cs):RepT F w [e] cs:=by
 simp only [RepT];exact⟨cs,[],by simp,h,rfl⟩
theorem Row.nil (F:Nat→Prop) (w:World) (A:Option Addr):Row F w A []:=fun j u h=>by simp at h
theorem Row.own {F:Nat→Prop} {B n cap m:Nat} {w:World} {A:Option Addr} {xs:List Value} {t:TypeId} (hF:∀ g,(Value.slice A n cap).ownBlock=some g→F g) (h:w.ownsRow B t m (Ad A n cap) n xs):Row F w A xs:=by
 intro j u hu
 rcases h.2 with ⟨h1,h2⟩ | ⟨g,c,cur,hv,hg,_⟩
 ·have:=h.1;subst h2;rw [Nat.zero_mul]at this;rw [List.eq_nil_of_length_eq_zero this]at hu;simp at hu
 ·cases hv
  have hlt:=h.lt g rfl;exact⟨_,rfl,hF g rfl,hlt.2,h.cells (g:=g) rfl j u hu⟩
theorem qa9 {w:World} {B n:Nat} {A:Option Addr} {cap:Nat} {xs:List Value} {t:TypeId} {m:Nat} (h:w.ownsRow B t m (Ad A n cap) n xs):n≤cap:=by
 rcases h.2 with ⟨h1,h2⟩ | ⟨g,c,cur,hv,_,_,hc,_⟩
 ·omega
 ·cases hv;exact hc
def isE (N:Nat) (w:World) (e:Ex) (v:Value):Prop:=∃ F cs,v= .agg cs.toArray∧RepE F w e cs∧ ∀ k,F k→N≤k∧k<w.heap.size
def isX (N:Nat) (w:World) (e:St) (v:Value):Prop:=∃ F cs,v= .agg cs.toArray∧RepX F w e cs∧ ∀ k,F k→N≤k∧k<w.heap.size
def qw21 (N:Nat) (w:World) (l:List Ex) (v:Value):Prop:=∃ F A cap xs,v= Ad A l.length cap∧l.length≤cap∧RepR F w l xs∧Row F w A xs∧ ∀ k,F k→N≤k∧k<w.heap.size
def isSs (N:Nat) (w:World) (l:List St) (v:Value):Prop:=∃ F A cap xs,v= Ad A l.length cap∧l.length≤cap∧RepT F w l xs∧Row F w A xs∧ ∀ k,F k→N≤k∧k<w.heap.size
theorem isE.open {N:Nat} {w:World} {e:Ex} {v:Value} (h:isE N w e v):∃ F op s d1 d2 b A1 n1 c1 A2 n2 c2,v= .agg #[Aa Ab op,Ac s,Aa Ab d1,Aa Ab d2,Ae b,Ad A1 n1 c1,Ad A2 n2 c2] ∧
  RepE F w e [Aa Ab op,Ac s,Aa Ab d1,Aa Ab d2,Ae b,Ad A1 n1 c1,Ad A2 n2 c2]∧ ∀ k,F k→N≤k∧k<w.heap.size:=by
 obtain⟨F,cs,rfl,hr,hF⟩:=h
 cases e
 simp only [RepE]at hr;obtain⟨K,S,rfl,⟨A,c,xs,rfl,h3⟩,⟨A',c',xs',rfl,g3⟩⟩:=hr;exact⟨F,_,_,_,_,_,_,_,_,_,_,_,rfl,by simp only [RepE];exact⟨_,_,rfl,⟨A,c,xs,rfl,h3⟩,⟨A',c',xs',rfl,g3⟩⟩,hF⟩
theorem isX.open {N:Nat} {w:World} {e:St} {v:Value} (h:isX N w e v):∃ F a k s b A1 n1 c1,v= .agg #[Aa Ab a,Aa Ab k,Ac s,Ae b,Ad A1 n1 c1] ∧
  RepX F w e [Aa Ab a,Aa Ab k,Ac s,Ae b,Ad A1 n1 c1]∧ ∀ k,F k→N≤k∧k<w.heap.size:=by
 obtain⟨F,cs,rfl,hr,hF⟩:=h
 cases e
 simp only [RepX]at hr;obtain⟨K,rfl,A,c,xs,rfl,h3⟩:=hr;exact⟨F,_,_,_,_,_,_,_,rfl,by simp only [RepX];exact⟨_,rfl,A,c,xs,rfl,h3⟩,hF⟩
end Go.Proofs.YtocdckniokhbbaaGreatDoor.Syn
namespace Go.Proofs.YtocdckniokhbbaaGreatDoor.Syn
open Go.RowKit Go.Shelf YtocdckniokhbbaaGreatDoorW.PrintWords YtocdckniokhbbaaGreatDoorW.PrintLast YtocdckniokhbbaaGreatDoorW.PrintMore CharB SpanA FigD LexA LexF
theorem RepR.get {F:Nat→Prop} {w:World}:∀ {l:List Ex} {xs:List Value} (h:RepR F w l xs) (k:Nat) (e:Ex),l[k]?=some e→ ∃ cs,RepE F w e cs∧ ∀ j,j<7→xs[k*7+j]?=cs[j]?
 | [],xs,h,k,e,he=>by simp at he
 | x :: l,xs,h,0,e,he=>by
  simp only [List.getElem?_cons_zero,Az.injEq]at he;subst he;simp only [RepR]at h;obtain⟨cs,ys,rfl,h2,h3⟩:=h;exact⟨cs,h2,fun j hj=>by rw [Nat.zero_mul,Nat.zero_add,List.getElem?_append_left (by rw [h2.len];exact hj)]⟩
 | x :: l,xs,h,k+1,e,he=>by
  simp only [List.getElem?_cons_succ]at he;simp only [RepR]at h;obtain⟨cs,ys,rfl,h2,h3⟩:=h;obtain⟨ds,g1,g2⟩:=RepR.get h3 k e he;exact⟨ds,g1,fun j hj=>by rw [List.getElem?_append_right (by rw [h2.len];omega),h2.len,show(k+1)*7+j - 7=k*7+j by omega];exact g2 j hj⟩
theorem RepT.get {F:Nat→Prop} {w:World}:∀ {l:List St} {xs:List Value} (h:RepT F w l xs) (k:Nat) (e:St),l[k]?=some e→ ∃ cs,RepX F w e cs∧ ∀ j,j<5→xs[k*5+j]?=cs[j]?
 | [],xs,h,k,e,he=>by simp at he
 | x :: l,xs,h,0,e,he=>by
  simp only [List.getElem?_cons_zero,Az.injEq]at he;subst he;simp only [RepT]at h;obtain⟨cs,ys,rfl,h2,h3⟩:=h;exact⟨cs,h2,fun j hj=>by rw [Nat.zero_mul,Nat.zero_add,List.getElem?_append_left (by rw [h2.len];exact hj)]⟩
 | x :: l,xs,h,k+1,e,he=>by
  simp only [List.getElem?_cons_succ]at he;simp only [RepT]at h;obtain⟨cs,ys,rfl,h2,h3⟩:=h;obtain⟨ds,g1,g2⟩:=RepT.get h3 k e he;exact⟨ds,g1,fun j hj=>by rw [List.getElem?_append_right (by rw [h2.len];omega),h2.len,show(k+1)*5+j - 5=k*5+j by omega];exact g2 j hj⟩
theorem Row.exp {F:Nat→Prop} {w:World} {A:Option Addr} {l:List Ex} {xs:List Value} (hR:RepR F w l xs) (hW:Row F w A xs) (k:Nat) (e:Ex) (he:l[k]?=some e) :
  ∃ a op s t v b A1 n1 c1 A2 n2 c2,A=some a∧F a.block∧a.block<w.heap.size∧RepE F w e [Aa Ab op,Ac s,Aa Ab t,Aa Ab v,Ae b,Ad A1 n1 c1,Ad A2 n2 c2] ∧
   w.cell? (a.add (k*7))=some (Aa Ab op)∧w.cell? ⟨(a.add (k*7)).block,(a.add (k*7)).off+1,none⟩=some (Ac s)∧w.cell? ⟨(a.add (k*7)).block,(a.add (k*7)).off+2,none⟩=some (Aa Ab t)∧w.cell? ⟨(a.add (k*7)).block,(a.add (k*7)).off+3,none⟩=some (Aa Ab v)∧w.cell? ⟨(a.add (k*7)).block,(a.add (k*7)).off+4,none⟩=some (Ae b)∧w.cell? ⟨(a.add (k*7)).block,(a.add (k*7)).off+5,none⟩=some (Ad A1 n1 c1)∧w.cell? ⟨(a.add (k*7)).block,(a.add (k*7)).off+6,none⟩=some (Ad A2 n2 c2):=by
 obtain⟨cs,h1,h2⟩:=hR.get k e he;obtain⟨op,s,t,v,b,kids,steps⟩:=e;have h1':=h1;simp only [RepE]at h1;obtain⟨K,S,rfl,⟨A1,c1,_,rfl,_⟩,⟨A2,c2,_,rfl,_⟩⟩:=h1;have g:∀ j u,j<7→([Aa Ab op,Ac (ba s),Aa Ab t,Aa Ab v,Ae b,Ad A1 kids.length c1,Ad A2 steps.length c2]:List Value)[j]?=some u→ ∃ a,A=some a∧F a.block∧a.block<w.heap.size∧w.cell? (a.add (k*7+j))=some u:=fun j u hj hu=>hW (k*7+j) u ((h2 j hj).trans hu);obtain⟨a,rfl,q1,q2,q3⟩:=g 0 _ (by decide) rfl
 have f:∀ j u,j<7→([Aa Ab op,Ac (ba s),Aa Ab t,Aa Ab v,Ae b,Ad A1 kids.length c1,Ad A2 steps.length c2]:List Value)[j]?=some u→w.cell? (a.add (k*7+j))=some u:=fun j u hj hu=>by
  obtain⟨a',e,_,_,h⟩:=g j u hj hu
  cases e
  exact h
 exact⟨a,op,ba s,t,v,b,A1,kids.length,c1,A2,steps.length,c2,rfl,q1,q2,h1',f 0 _ (by decide) rfl,by rw [← qe2 _ _ 1 (by omega)];exact f 1 _ (by decide) rfl,by rw [← qe2 _ _ 2 (by omega)];exact f 2 _ (by decide) rfl,by rw [← qe2 _ _ 3 (by omega)];exact f 3 _ (by decide) rfl,by rw [← qe2 _ _ 4 (by omega)];exact f 4 _ (by decide) rfl,by rw [← qe2 _ _ 5 (by omega)];exact f 5 _ (by decide) rfl,by rw [← qe2 _ _ 6 (by omega)];exact f 6 _ (by decide) rfl⟩
theorem Row.st {F:Nat→Prop} {w:World} {A:Option Addr} {l:List St} {xs:List Value} (hR:RepT F w l xs) (hW:Row F w A xs) (k:Nat) (e:St) (he:l[k]?=some e) :
  ∃ a x y s b A1 n1 c1,A=some a∧F a.block∧a.block<w.heap.size∧RepX F w e [Aa Ab x,Aa Ab y,Ac s,Ae b,Ad A1 n1 c1] ∧
   w.cell? (a.add (k*5))=some (Aa Ab x)∧w.cell? ⟨(a.add (k*5)).block,(a.add (k*5)).off+1,none⟩=some (Aa Ab y)∧w.cell? ⟨(a.add (k*5)).block,(a.add (k*5)).off+2,none⟩=some (Ac s)∧w.cell? ⟨(a.add (k*5)).block,(a.add (k*5)).off+3,none⟩=some (Ae b)∧w.cell? ⟨(a.add (k*5)).block,(a.add (k*5)).off+4,none⟩=some (Ad A1 n1 c1):=by
 obtain⟨cs,h1,h2⟩:=hR.get k e he;obtain⟨x,y,s,b,preds⟩:=e;have h1':=h1;simp only [RepX]at h1;obtain⟨K,rfl,A1,c1,_,rfl,_⟩:=h1;have g:∀ j u,j<5→([Aa Ab x,Aa Ab y,Ac (ba s),Ae b,Ad A1 preds.length c1]:List Value)[j]?=some u→ ∃ a,A=some a∧F a.block∧a.block<w.heap.size∧w.cell? (a.add (k*5+j))=some u:=fun j u hj hu=>hW (k*5+j) u ((h2 j hj).trans hu);obtain⟨a,rfl,q1,q2,q3⟩:=g 0 _ (by decide) rfl
 have f:∀ j u,j<5→([Aa Ab x,Aa Ab y,Ac (ba s),Ae b,Ad A1 preds.length c1]:List Value)[j]?=some u→w.cell? (a.add (k*5+j))=some u:=fun j u hj hu=>by
  obtain⟨a',e,_,_,h⟩:=g j u hj hu
  cases e
  exact h
 exact⟨a,x,y,ba s,b,A1,preds.length,c1,rfl,q1,q2,h1',f 0 _ (by decide) rfl,by rw [← qe2 _ _ 1 (by omega)];exact f 1 _ (by decide) rfl,by rw [← qe2 _ _ 2 (by omega)];exact f 2 _ (by decide) rfl,by rw [← qe2 _ _ 3 (by omega)];exact f 3 _ (by decide) rfl,by rw [← qe2 _ _ 4 (by omega)];exact f 4 _ (by decide) rfl⟩
theorem Row.exp0 {F:Nat→Prop} {w:World} {A:Option Addr} {l:List Ex} {xs:List Value} (hR:RepR F w l xs) (hW:Row F w A xs) (e:Ex) (he:l[0]?=some e) :
  ∃ a op s t v b A1 n1 c1 A2 n2 c2,A=some a∧F a.block∧a.block<w.heap.size∧RepE F w e [Aa Ab op,Ac s,Aa Ab t,Aa Ab v,Ae b,Ad A1 n1 c1,Ad A2 n2 c2]∧w.cell? a=some (Aa Ab op)∧w.cell? ⟨a.block,a.off+1,none⟩=some (Ac s)∧w.cell? ⟨a.block,a.off+2,none⟩=some (Aa Ab t)∧w.cell? ⟨a.block,a.off+3,none⟩=some (Aa Ab v)∧w.cell? ⟨a.block,a.off+4,none⟩=some (Ae b)∧w.cell? ⟨a.block,a.off+5,none⟩=some (Ad A1 n1 c1)∧w.cell? ⟨a.block,a.off+6,none⟩=some (Ad A2 n2 c2):=by
 obtain⟨a,op,s,t,v,b,A1,n1,c1,A2,n2,c2,h1,h2,h3,h4,x0,x1,x2,x3,x4,x5,x6⟩:=Row.exp hR hW 0 e he;exact⟨a,op,s,t,v,b,A1,n1,c1,A2,n2,c2,h1,h2,h3,h4,x0,x1,x2,x3,x4,x5,x6⟩
theorem Row.exp1 {F:Nat→Prop} {w:World} {A:Option Addr} {l:List Ex} {xs:List Value} (hR:RepR F w l xs) (hW:Row F w A xs) (e:Ex) (he:l[1]?=some e) :
  ∃ a op s t v b A1 n1 c1 A2 n2 c2,A=some a∧F a.block∧a.block<w.heap.size∧RepE F w e [Aa Ab op,Ac s,Aa Ab t,Aa Ab v,Ae b,Ad A1 n1 c1,Ad A2 n2 c2]∧w.cell? ⟨a.block,a.off+7,none⟩=some (Aa Ab op)∧w.cell? ⟨a.block,a.off+8,none⟩=some (Ac s)∧w.cell? ⟨a.block,a.off+9,none⟩=some (Aa Ab t)∧w.cell? ⟨a.block,a.off+10,none⟩=some (Aa Ab v)∧w.cell? ⟨a.block,a.off+11,none⟩=some (Ae b)∧w.cell? ⟨a.block,a.off+12,none⟩=some (Ad A1 n1 c1)∧w.cell? ⟨a.block,a.off+13,none⟩=some (Ad A2 n2 c2):=by
 obtain⟨a,op,s,t,v,b,A1,n1,c1,A2,n2,c2,h1,h2,h3,h4,x0,x1,x2,x3,x4,x5,x6⟩:=Row.exp hR hW 1 e he;exact⟨a,op,s,t,v,b,A1,n1,c1,A2,n2,c2,h1,h2,h3,h4,x0,x1,x2,x3,x4,x5,x6⟩
theorem qe1 (a:Addr) (m:Nat):(a.add m).block=a.block:=by unfold Addr.add;split<;>rfl
end Go.Proofs.YtocdckniokhbbaaGreatDoor.Syn
