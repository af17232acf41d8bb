import Derived.Test.YtocdckniokhbbaaGreatDoorZrZz
import Derived.Test.YtocdckniokhbbaaGreatDoorZrSynE
import Derived.Test.YtocdckniokhbbaaGreatDoorZrBrkA
import Derived.Test.YtocdckniokhbbaaGreatDoorZrTxt
import Derived.Test.YtocdckniokhbbaaGreatDoorZrPFx1
import Derived.Lib.Builder
import Derived.Shelf.RegionOpen
import Derived.Laws.IdiomStrings
import Derived.Deep.QuietTactic
import Derived.BigQuiet
set_option linter.unusedVariables false
set_option linter.unusedSimpArgs false
open Bool renaming and_eq_true→AK
open Nat renaming le_refl→Ag,zero_le→A6
open Go.Obj renaming cells→Af
open Go.Lib renaming cell_of_heap→Ai,frozen_of_heap→Bb,size_eq→A8
open Array renaming getElem?_eq_some_iff→An
open Go.RowKit.Below renaming heap_setCell→AS,refl→Ao
open List renaming drop_eq_getElem_cons→AQ,length_drop→Bf,dropWhile_sublist→Bn
open Go.Value renaming bool→Ae,string→Ac,int→Aa
open Go.Proofs.Tryz renaming prog→Am
open Go.IntKind renaming i64→Ab
open Go.ByteArray renaming toList_eq→AB
set_option maxHeartbeats 4000000
set_option maxRecDepth 100000
namespace Go.Proofs.YtocdckniokhbbaaGreatDoor.Syn
open LexA
def qv1 (s:List UInt8):Ex × Int:=
 if(qn5 s).2=0 then(if qx8 0 (qn5 s).1=true then(ex0,34)else match qk2 (qn5 s).1 with | some e=>(e,0) | none=>(ex0,31))else(ex0,(qn5 s).2)
def opsT:List (List UInt8):=[[111,114],[97,110,100],[61],[33,61],[60],[60,61],[62],[62,61],[43],[45],[42],[100,105,118],[109,111,100]]
def ranksT:List Nat:=[0,1,2,2,3,3,3,3,4,4,5,5,5]
def textR (i j:Nat):List UInt8:=[49,32] ++ opsT.getD i [] ++ [32,50,32] ++ opsT.getD j [] ++ [32,51]
def shapeR (i j:Nat):Bool:=match qv1 (textR i j)with
 | (.mk op _ _ _ _ [.mk a _ _ _ _ _ _,.mk b _ _ _ _ _ _] _,n)=>n == 0 && (if ranksT.getD j 0≤ranksT.getD i 0 then op == (j:Int)+1 && a == (i:Int)+1 && b == 19 else op == (i:Int)+1 && a == 19 && b == (j:Int)+1)
 | _=>false
theorem qh24:∀ i,i<13→ ∀ j,j<13→shapeR i j=true:=by decide +kernel
theorem qi24 (i j:Nat) (hi:i<13) (hj:j<13):∃ op s v t b steps a s1 v1 t1 b1 k1 st1 c s2 v2 t2 b2 k2 st2,qv1 (textR i j)=(.mk op s v t b [.mk a s1 v1 t1 b1 k1 st1,.mk c s2 v2 t2 b2 k2 st2] steps,0) ∧
  (if ranksT.getD j 0≤ranksT.getD i 0 then op=(j:Int)+1∧a=(i:Int)+1∧c=19 else op=(i:Int)+1∧a=19∧c=(j:Int)+1):=by
 have h:=qh24 i hi j hj;unfold shapeR at h
 split at h
 ·rename_i op s v t b a s1 v1 t1 b1 k1 st1 c s2 v2 t2 b2 k2 st2 steps n heq
  simp only [AK,beq_iff_eq]at h;obtain⟨rfl,h⟩:=h;refine⟨op,s,v,t,b,steps,a,s1,v1,t1,b1,k1,st1,c,s2,v2,t2,b2,k2,st2,heq,?_⟩
  split at h
  ·rename_i h1
   rw [if_pos h1];simpa [and_assoc]using h
  ·rename_i h1
   rw [if_neg h1];simpa [and_assoc]using h
 ·cases h
end Go.Proofs.YtocdckniokhbbaaGreatDoor.Syn
namespace Go.Proofs.YtocdckniokhbbaaGreatDoor.Syn
open LexA BrkA
theorem qw22 {l:List Wd} {a:Ex} (h:qk2 l=some a) {rest:List Wd} (hf:Fol 0 rest) {n:Nat} (hn:80*l.length+56≤n):ql2 n 0 (l ++ rest)=some (a,rest):=by
 have h1:ql2 (80*l.length+60) 0 l=some (a,[]):=by
  unfold qk2 at h
  split at h
  ·rename_i e he;rw [he];cases h;rfl
  ·cases h
 have h2:=(qf18 l a _ (80*l.length+60) (Ag _) (Ag _)).1 h1;exact(all_B _).1.or (by omega) h2 rest n hf (by omega)
theorem qh10 (n k:Nat) (r:List Wd) (hk:k<6):ql2 (n+1) k r=(ql2 n (k+1) r).bind fun x=>qy3 n k x.1 x.2:=by
 rw [ql2,if_neg (by omega)]
theorem qe8 (n k:Nat) (e:Ex) (r:List Wd) (h:qv15 k r=none):qy3 (n+1) k e r=some (e,r):=by
 rw [qy3,h]
theorem qo18 (n k:Nat) (e:Ex) (r:List Wd) (o:Int × List Wd) (h:qv15 k r=some o):qy3 (n+1) k e r=(ql2 n (k+1) o.2).bind fun x=>qy3 n k (mkW o.1 [e,x.1]) x.2:=by
 rw [qy3,h]
theorem qo24 {l:List Wd} {a:Ex} (h:qk2 l=some a) (rest:List Wd) {n:Nat} (hn:80*l.length+57≤n):qu3 n (wO :: (l ++ wC :: rest))=some (a,rest):=by
 obtain⟨n,rfl⟩:∃ j,n=j+1:=⟨n - 1,by omega⟩;have hf:Fol 0 (wC :: rest):=Fol.close rfl (.inl rfl);have hb:=qw22 h hf (n:=n) (by omega);rw [qu3,if_neg (show ¬ (wO.1 == 10)=true by decide),if_neg (show ¬ (wO.1 == 8)=true by decide),if_neg (show ¬ (wO.1 == 9)=true by decide),if_neg (show ¬ (wO.1 == 6)=true by decide),hb];rfl
def BehK (rest:List Wd):Prop:=isW 1 [91] rest=false∧isW 5 [47] rest=false∧isW 5 [47,47] rest=false∧isW 5 [124] rest=false
theorem qw17 {l:List Wd} {a:Ex} (h:qk2 l=some a) {rest:List Wd} (hb:BehK rest) {n:Nat} (hn:80*l.length+70≤n):qe3 n (wO :: (l ++ wC :: rest))=some (a,rest):=by
 obtain⟨n,rfl⟩:∃ j,n=j+5:=⟨n - 5,by omega⟩;have h1:qu3 (n+1) (wO :: (l ++ wC :: rest))=some (a,rest):=qo24 h rest (by omega);have h2:qm1 (n+1) [] rest=some ([],rest):=by simp only [qm1];rw [take_none.2 hb.1]
 have h3:qm3 (n+2) (wO :: (l ++ wC :: rest))=some (a,rest):=by simp only [qm3];rw [h1];simp only [Option.bind];rw [h2];rfl
 have h4:qm4 (n+3) (wO :: (l ++ wC :: rest))=some (a,rest):=by
  simp only [qm4];rw [if_pos (show qa2 (wO :: (l ++ wC :: rest))=true from rfl),h3];simp only [Option.bind];rw [hb.2.1,hb.2.2.1];rfl
 have h5:qq3 (n+3) a rest=some (a,rest):=by simp only [qq3];rw [take_none.2 hb.2.2.2]
 have h6:qe4 (n+4) (wO :: (l ++ wC :: rest))=some (a,rest):=by simp only [qe4];rw [h4];exact h5
 simp only [qe3];rw [show takeW 5 [45] (wO :: (l ++ wC :: rest))=none from rfl];exact h6
theorem qe13 {l:List Wd} {a:Ex} (h:qk2 l=some a) {rest:List Wd} (hb:BehK rest) (j:Nat) (hop:∀ k,j≤k→k<6→qv15 k rest=none):∀ (d k n:Nat),k+d=6→j≤k→80*l.length+72+d≤n→ql2 n k (wO :: (l ++ wC :: rest))=some (a,rest)
 | 0,k,n,hk,hj,hn=>by
  obtain⟨n,rfl⟩:∃ j,n=j+1:=⟨n - 1,by omega⟩;obtain rfl:k=6:=by omega
  simp only [ql2];rw [if_pos (by omega)];exact qw17 h hb (by omega)
 | d+1,k,n,hk,hj,hn=>by
  obtain⟨n,rfl⟩:∃ j,n=j+2:=⟨n - 2,by omega⟩;rw [qh10 _ _ _ (by omega),qe13 h hb j hop d (k+1) (n+1) (by omega) (by omega) (by omega)];exact qe8 _ _ _ _ (hop k hj (by omega))
theorem qh18 {l:List Wd} {a:Ex} (h:qk2 l=some a):qk2 (wO :: (l ++ [wC]))=some a:=by
 unfold qk2;rw [qe13 h (rest:=[]) ⟨rfl,rfl,rfl,rfl⟩ 0 (fun k _ _=>rfl) 6 0 _ rfl (Ag _) za6]
theorem upK {r:List Wd} {e:Ex} {N:Nat} (h:∀ n,N≤n→ql2 n 4 r=some (e,[])):∀ (d k n:Nat),k+d=4→N+d+1≤n→ql2 n k r=some (e,[])
 | 0,k,n,hk,hn=>by
  obtain rfl:k=4:=by omega
  exact h n (by omega)
 | d+1,k,n,hk,hn=>by
  obtain⟨n,rfl⟩:∃ j,n=j+2:=⟨n - 2,by omega⟩;rw [qh10 _ _ _ (by omega),upK h d (k+1) (n+1) (by omega) (by omega)];exact qe8 n k e [] rfl
theorem qd18 {l1 l2:List Wd} {a b:Ex} (h1:qk2 l1=some a) (h2:qk2 l2=some b):qk2 (wO :: (l1 ++ wC :: wP :: wO :: (l2 ++ [wC])))=some (mkW 9 [a,b]):=by
 have hb:BehK (wP :: wO :: (l2 ++ [wC])):=⟨rfl,rfl,rfl,rfl⟩
 have h4:∀ n,80*l1.length+80*l2.length+100≤n→ql2 n 4 (wO :: (l1 ++ wC :: wP :: wO :: (l2 ++ [wC])))=some (mkW 9 [a,b],[]):=by
  intro n hn;obtain⟨n,rfl⟩:∃ j,n=j+3:=⟨n - 3,by omega⟩;rw [qh10 _ _ _ (by omega),qe13 h1 hb 5 (fun k hk hk6=>by rw [show k=5 by omega];rfl) 1 5 (n+2) rfl (Ag _) (by omega)];refine(qo18 (n+1) 4 a (wP :: wO :: (l2 ++ [wC])) (9,wO :: (l2 ++ [wC])) rfl).trans ?_;rw [qe13 h2 (rest:=[]) ⟨rfl,rfl,rfl,rfl⟩ 0 (fun k _ _=>rfl) 1 5 (n+1) rfl (by omega) (by omega)];exact qe8 n 4 _ [] rfl
 unfold qk2;rw [upK h4 4 0 _ rfl za6]
theorem qz7 {s:List UInt8} {a:Ex} (h:qv1 s=(a,0)):∃ l,qn5 s=(l,0)∧qk2 l=some a:=by
 unfold qv1 at h
 split at h
 ·rename_i h1
  split at h
  ·cases h
  ·split at h
   ·rename_i e he
    cases h
    exact⟨(qn5 s).1,Prod.ext rfl h1,he⟩
   ·cases h
 ·rename_i h1
  exact absurd (congrArg Prod.snd h) h1
theorem qo11 {s:List UInt8} {l:List Wd} {a:Ex} (h1:qn5 s=(l,0)∨(qn5 s).2=3) (h2:qk2 l=some a):qv1 s=(a,0)∨(qv1 s).2=3∨(qv1 s).2=34:=by
 rcases h1 with h1 | h1
 ·unfold qv1;rw [h1];simp only [if_true];by_cases hd:qx8 0 l=true
  ·rw [if_pos hd];exact .inr (.inr rfl)
  ·rw [if_neg hd,h2];exact .inl rfl
 ·right;left;unfold qv1;rw [if_neg (by rw [h1];decide)];exact h1
theorem brk_one {s:List UInt8} {a:Ex} (hs:s.length≤190) (h:qv1 s=(a,0)):qv1 (40 :: (s ++ [41]))=(a,0)∨(qv1 (40 :: (s ++ [41]))).2=3∨(qv1 (40 :: (s ++ [41]))).2=34:=by
 obtain⟨l,h1,h2⟩:=qz7 h;exact qo11 (qu25 hs h1) (qh18 h2)
theorem brk_two {s t:List UInt8} {a b:Ex} (hs:s.length≤190) (ht:t.length≤190) (h1:qv1 s=(a,0)) (h2:qv1 t=(b,0)) :
  qv1 (40 :: (s ++ 41 :: 32 :: 43 :: 32 :: 40 :: (t ++ [41])))=(mkW 9 [a,b],0)∨(qv1 (40 :: (s ++ 41 :: 32 :: 43 :: 32 :: 40 :: (t ++ [41])))).2=3∨(qv1 (40 :: (s ++ 41 :: 32 :: 43 :: 32 :: 40 :: (t ++ [41])))).2=34:=by
 obtain⟨l1,k1,k2⟩:=qz7 h1;obtain⟨l2,k3,k4⟩:=qz7 h2;exact qo11 (qt25 hs ht k1 k3) (qd18 k2 k4)
end Go.Proofs.YtocdckniokhbbaaGreatDoor.Syn
namespace Go.Proofs.YtocdckniokhbbaaGreatDoor.Syn
open LexA
mutual
def qx1:Ex→Ex→Bool
 | .mk op s v t b ks ss,.mk op' s' v' t' b' ks' ss'=>op == op' && s == s' && (v == v' && t == t') && b == b' && ss.length == ss'.length && qq1 ks ks' && qd3 ss ss'
def qq1:List Ex→List Ex→Bool
 | [],[]=>true
 | e :: l,f :: m=>qx1 e f && qq1 l m
 | [],_ :: _=>false
 | _ :: _,[]=>false
def qc3:St→St→Bool
 | .mk a k n h ps,.mk a' k' n' h' ps'=>a == a' && (k == k' && n == n' && h == h') && qq1 ps ps'
def qd3:List St→List St→Bool
 | [],[]=>true
 | e :: l,f :: m=>qc3 e f && qd3 l m
 | [],_ :: _=>false
 | _ :: _,[]=>false
end
mutual
theorem qe24:∀ {a b:Ex},qx1 a b=true→a=b
 | .mk op s v t b ks ss,.mk op' s' v' t' b' ks' ss',h=>by
  simp only [qx1,AK,beq_iff_eq]at h;obtain⟨⟨⟨⟨⟨⟨h1,h2⟩,h3,h4⟩,h5⟩,_⟩,h6⟩,h7⟩:=h;rw [h1,h2,h3,h4,h5,qa7 h6,qg12 h7]
theorem qa7:∀ {a b:List Ex},qq1 a b=true→a=b
 | [],[],_=>rfl
 | e :: l,f :: m,h=>by
  simp only [qq1,AK]at h;rw [qe24 h.1,qa7 h.2]
 | [],_ :: _,h=>by simp [qq1]at h
 | _ :: _,[],h=>by simp [qq1]at h
theorem qc24:∀ {a b:St},qc3 a b=true→a=b
 | .mk a k n h ps,.mk a' k' n' h' ps',hq=>by
  simp only [qc3,AK,beq_iff_eq]at hq;obtain⟨⟨h1,⟨h2,h3⟩,h4⟩,h5⟩:=hq;rw [h1,h2,h3,h4,qa7 h5]
theorem qg12:∀ {a b:List St},qd3 a b=true→a=b
 | [],[],_=>rfl
 | e :: l,f :: m,h=>by
  simp only [qd3,AK]at h;rw [qc24 h.1,qg12 h.2]
 | [],_ :: _,h=>by simp [qd3]at h
 | _ :: _,[],h=>by simp [qd3]at h
end
mutual
theorem qb6:∀ (a:Ex),qx1 a a=true
 | .mk op s v t b ks ss=>by simp [qx1,qp6 ks,qh11 ss]
theorem qp6:∀ (a:List Ex),qq1 a a=true
 | []=>by simp [qq1]
 | e :: l=>by simp [qq1,qb6 e,qp6 l]
theorem qy17:∀ (a:St),qc3 a a=true
 | .mk a k n h ps=>by simp [qc3,qp6 ps]
theorem qh11:∀ (a:List St),qd3 a a=true
 | []=>by simp [qd3]
 | e :: l=>by simp [qd3,qy17 e,qh11 l]
end
theorem qx17:∀ {a b:List Ex},qq1 a b=true→a.length=b.length:=fun h=>congrArg List.length (qa7 h)
end Go.Proofs.YtocdckniokhbbaaGreatDoor.Syn
namespace Go.Proofs.YtocdckniokhbbaaGreatDoor.FigD
open Go.RowKit Go.Shelf YtocdckniokhbbaaGreatDoorW.PrintWords YtocdckniokhbbaaGreatDoorW.PrintLast YtocdckniokhbbaaGreatDoorW.PrintMore CharB CharD SpanA FigA FigC
theorem qu {W:World} {b:Nat} {cs:Array Value} {t:TypeId} (h:W.heap[b]?=some (Af cs t (0,0))) (j:Nat):W.cell? ⟨b,j,none⟩=cs[j]? :=Ai h j
def Cell (b:Nat) (v:Value) (t:TypeId) (W:World):Prop:=W.heap[b]?=some (Af #[v] t (0,0))
theorem Cell.at {b:Nat} {v:Value} {t:TypeId} {W:World} (h:Cell b v t W):W.cell? ⟨b,0,none⟩=some v:=by rw [qu h];rfl
theorem Cell.free {b:Nat} {v:Value} {t:TypeId} {W:World} (h:Cell b v t W):W.frozen? ⟨b,0,none⟩=false:=Bb h 0
theorem Cell.set {b:Nat} {v u:Value} {t:TypeId} {W:World} (h:Cell b v t W):Cell b u t (W.setCell ⟨b,0,none⟩ u):=by
 unfold Cell at h ⊢;obtain⟨hlt,hk⟩:=An.1 h;show(W.heap.modify b _)[b]?=_;rw [Array.getElem?_eq_getElem (by rw [Array.size_modify];exact hlt),Array.getElem_modify_self,hk];rfl
theorem Cell.other {b c:Nat} {v u:Value} {t:TypeId} {W:World} (h:Cell b v t W) (hne:c≠b):Cell b v t (W.setCell ⟨c,0,none⟩ u):=by
 unfold Cell at h ⊢;rw [AS _ _ _ b (fun e=>hne (by simpa using e.symm))];exact h
theorem qr5 (p:UInt8→Bool) (l:List UInt8) (k:Nat) (hk:k≤l.length) (h:(l.take k).all p=true) (hs:(h':k<l.length)→p l[k]=false):l.takeWhile p=l.take k∧l.dropWhile p=l.drop k:=by
 have h2:(l.drop k).head?.map p≠some true:=by
  by_cases h':k<l.length
  ·rw [AQ h',List.head?_cons,Option.map_some,hs h'];simp
  ·rw [List.drop_eq_nil_of_le (by omega)];simp
 have:=qq4 (l.take k) (l.drop k) h h2;rw [List.take_append_drop]at this;exact this
theorem qf13 (p:UInt8→Bool) (l:List UInt8) (k:Nat) (hk:k<l.length) (h:(l.take k).all p=true) (hp:p l[k]=true):(l.take (k+1)).all p=true:=by
 rw [List.take_succ_eq_append_getElem hk,List.all_append,h];simp [hp]
theorem qr18 (c:UInt8) (w:World):Calls Am 146 #[.int .u8 (c.toNat:Int)] w fun e w'=>e= .returned (Ae (qr1 c))∧w=w':=by
 by_cases h1:48≤c.toNat
 ·have d1:decide ((48:Int)≤(c.toNat:Int))=true:=by simp;omega
  by_cases h2:c.toNat≤57
  ·have d2:decide ((c.toNat:Int)≤(57:Int))=true:=by simp;omega
   rw [(qo3 c).2 ⟨h1,h2⟩];clear h1 h2;go_enter Tryz.func146,Tryz.ntmps146;go_wp2;go_ret;exact⟨rfl,rfl⟩
  ·have d2:decide ((c.toNat:Int)≤(57:Int))=false:=by simp;omega
   rw [show qr1 c=false by cases h:qr1 c with | false=>rfl | true=>exact absurd ((qo3 c).1 h).2 h2];clear h1 h2;go_enter Tryz.func146,Tryz.ntmps146;go_wp2;go_ret;exact⟨rfl,rfl⟩
 ·have d1:decide ((48:Int)≤(c.toNat:Int))=false:=by simp;omega
  rw [show qr1 c=false by cases h:qr1 c with | false=>rfl | true=>exact absurd ((qo3 c).1 h).1 h1];clear h1;go_enter Tryz.func146,Tryz.ntmps146;go_wp2;go_ret;exact⟨rfl,rfl⟩
theorem qu26 (c:UInt8) (w:World):Calls Am 147 #[.int .u8 (c.toNat:Int)] w fun e w'=>e= .returned (Ae true)∧w=w':=by
 go_enter Tryz.func147,Tryz.ntmps147;go_wp2;go_ret;exact⟨rfl,rfl⟩
def dotB (c:UInt8):Bool:=c == 46
theorem qh26 (c:UInt8):((c.toNat:Int) == 46)=dotB c:=by
 unfold dotB;have:∀ n:Fin 256,(((UInt8.ofNat n.1).toNat:Int) == 46)=(UInt8.ofNat n.1 == 46):=by decide +kernel
 have:=this ⟨c.toNat,c.toNat_lt⟩;simpa using this
theorem qm11 (f:Bool) (c:UInt8) (b:Nat) (w:World) (h:Cell b (Ae f) 4 w):Calls Am 145 #[.int .u8 (c.toNat:Int),.pointer (some ⟨b,0,none⟩)] w fun e w'=>e= .returned (Ae (f && dotB c))∧w'=w.setCell ⟨b,0,none⟩ (Ae false):=by
 have c0:=h.at;have f0:=h.free;have hd:=qh26 c;clear h
 cases f with
 | false=>
  clear hd;go_enter Tryz.func145,Tryz.ntmps145;go_wp2;go_ret;exact⟨rfl,rfl⟩
 | true=>
  cases hx:dotB c with
  | false=>
   rw [hx]at hd;clear hx;go_enter Tryz.func145,Tryz.ntmps145;go_wp2;go_ret;exact⟨rfl,rfl⟩
  | true=>
   rw [hx]at hd;clear hx;go_enter Tryz.func145,Tryz.ntmps145;go_wp2;go_ret;exact⟨rfl,rfl⟩
theorem qc11 (s:ByteArray) (b:Nat) (w:World) (hs:s.size≤1000000000) (h:Cell b (Ac s) 9 w) :
  Calls Am 184 #[.func (.func 146) #[] #[],.pointer (some ⟨b,0,none⟩)] w fun e w'=>e= .returned (Ac (ba (s.data.toList.takeWhile qr1)))∧w'=w.setCell ⟨b,0,none⟩ (Ac (ba (s.data.toList.dropWhile qr1))):=by
 have c0:=h.at;have f0:=h.free;clear h;obtain⟨R1,hR1⟩:∃ R,ba (s.data.toList.takeWhile qr1)=R:=⟨_,rfl⟩;obtain⟨R2,hR2⟩:∃ R,ba (s.data.toList.dropWhile qr1)=R:=⟨_,rfl⟩;rw [hR1,hR2];have H1:=Aside0.mk hR1;have H2:=Aside0.mk hR2;clear hR1 hR2;have hlen:s.data.toList.length≤s.size∧s.size≤s.data.toList.length:=by rw [← A8];exact⟨Ag _,Ag _⟩
 go_enter Tryz.func184,Tryz.ntmps184;go_wp2;go_loop [4] (fun i=>∃ k:Nat,i= Aa Ab (k:Int)∧Aside0 (k≤s.size)∧Aside0 ((s.data.toList.take k).all qr1=true)) (fun i=>s.size - (intOf i).toNat)
 case atStart=>exact⟨0,rfl,⟨A6 _⟩,⟨rfl⟩⟩
 case round=>
  obtain⟨k,rfl,HK,HA⟩:=hrel;have hk:=HK.out;by_cases hlt:k<s.size
  ·have hlt':k<s.data.toList.length:=by omega
   have hc:=qr18 (s[k]'hlt) w
   cases hd:qr1 (s[k]'hlt)with
   | true=>
    have hd2:=Aside0.mk hd;rw [hd]at hc;clear hd;go_wp2_with fail
    refine hc.mono ?_;rintro e w' ⟨rfl,rfl⟩;go_wp2_with fail
    go_round
    case rel=>exact⟨k+1,by go_num,⟨by omega⟩,⟨qf13 _ _ k hlt' HA.out hd2.out⟩⟩
    case measure=>simp [intOf];omega
   | false=>
    have hst:=qr5 qr1 s.data.toList k (by omega) HA.out (fun _=>hd);rw [hd]at hc;have e1:R1=s.extract 0 k:=by rw [← H1.out,hst.1];exact qb2 (by rw [qk1,qa1];simp)
    have e2:R2=s.extract k s.size:=by rw [← H2.out,hst.2];exact qb2 zbl
    subst e1 e2;clear hd hst H1 H2;go_wp2_with fail
    refine hc.mono ?_;rintro e w' ⟨rfl,rfl⟩;go_wp2_with fail
    go_ret;exact⟨rfl,rfl⟩
  ·have hst:=qr5 qr1 s.data.toList k (by omega) HA.out (fun h=>absurd h (by omega));obtain rfl:k=s.size:=by omega
   have e1:R1=s.extract 0 s.size:=by rw [← H1.out,hst.1];exact qb2 (by rw [qk1,qa1];simp)
   have e2:R2=s.extract s.size s.size:=by rw [← H2.out,hst.2];exact qb2 zbl
   subst e1 e2;clear hst H1 H2;go_wp2_with fail
   go_ret;exact⟨rfl,rfl⟩
theorem qp16 (s:ByteArray) (b:Nat) (w:World) (hs:s.size≤1000000000) (h:Cell b (Ac s) 9 w) :
  Calls Am 184 #[.func (.func 147) #[] #[],.pointer (some ⟨b,0,none⟩)] w fun e w'=>e= .returned (Ac (ba (s.data.toList.takeWhile (fun _=>true))))∧w'=w.setCell ⟨b,0,none⟩ (Ac (ba (s.data.toList.dropWhile (fun _=>true)))):=by
 have c0:=h.at;have f0:=h.free;clear h;obtain⟨R1,hR1⟩:∃ R,ba (s.data.toList.takeWhile (fun _=>true))=R:=⟨_,rfl⟩;obtain⟨R2,hR2⟩:∃ R,ba (s.data.toList.dropWhile (fun _=>true))=R:=⟨_,rfl⟩;rw [hR1,hR2];have H1:=Aside0.mk hR1;have H2:=Aside0.mk hR2;clear hR1 hR2;have hlen:s.data.toList.length≤s.size∧s.size≤s.data.toList.length:=by rw [← A8];exact⟨Ag _,Ag _⟩
 go_enter Tryz.func184,Tryz.ntmps184;go_wp2;go_loop [4] (fun i=>∃ k:Nat,i= Aa Ab (k:Int)∧Aside0 (k≤s.size)∧Aside0 ((s.data.toList.take k).all (fun _=>true)=true)) (fun i=>s.size - (intOf i).toNat)
 case atStart=>exact⟨0,rfl,⟨A6 _⟩,⟨rfl⟩⟩
 case round=>
  obtain⟨k,rfl,HK,HA⟩:=hrel;have hk:=HK.out;by_cases hlt:k<s.size
  ·have hlt':k<s.data.toList.length:=by omega
   have hc:=qu26 (s[k]'hlt) w
   cases hd:(fun _=>true) (s[k]'hlt)with
   | true=>
    have hd2:=Aside0.mk hd
    skip
    clear hd;go_wp2_with fail
    refine hc.mono ?_;rintro e w' ⟨rfl,rfl⟩;go_wp2_with fail
    go_round
    case rel=>exact⟨k+1,by go_num,⟨by omega⟩,⟨qf13 _ _ k hlt' HA.out rfl⟩⟩
    case measure=>simp [intOf];omega
   | false=>cases hd
  ·have hst:=qr5 (fun _=>true) s.data.toList k (by omega) HA.out (fun h=>absurd h (by omega));obtain rfl:k=s.size:=by omega
   have e1:R1=s.extract 0 s.size:=by rw [← H1.out,hst.1];exact qb2 (by rw [qk1,qa1];simp)
   have e2:R2=s.extract s.size s.size:=by rw [← H2.out,hst.2];exact qb2 zbl
   subst e1 e2;clear hst H1 H2;go_wp2_with fail
   go_ret;exact⟨rfl,rfl⟩
def dotL (s:List UInt8):List UInt8:=if s.head?=some 46 then [46]else []
def dotR (s:List UInt8):List UInt8:=if s.head?=some 46 then s.tail else s
theorem qz12 (c:UInt8):dotB c=true↔c=46:=by unfold dotB;simp
theorem qu17 (s:ByteArray) (b c B:Nat) (w:World) (hs:s.size≤1000000000) (h:Cell b (Ac s) 9 w) (hc:Cell c (Ae true) 4 w) (hne:c≠b) (hb:B≤b) (hcB:B≤c) :
  Calls Am 184 #[.func (.func 145) #[] #[.pointer (some ⟨c,0,none⟩)],.pointer (some ⟨b,0,none⟩)] w fun e w'=>e= .returned (Ac (ba (dotL s.data.toList)))∧Cell b (Ac (ba (dotR s.data.toList))) 9 w'∧Below B w w':=by
 obtain⟨R1,hR1⟩:∃ R,ba (dotL s.data.toList)=R:=⟨_,rfl⟩;obtain⟨R2,hR2⟩:∃ R,ba (dotR s.data.toList)=R:=⟨_,rfl⟩;rw [hR1,hR2];have hB0:=Aside0.mk (Ao B w);have HC:=Aside0.mk h;by_cases hz:0<s.size
 ·have hz':0<s.data.toList.length:=by rw [← A8];exact hz
  have hsp:s.data.toList=s[0]'hz :: s.data.toList.drop 1:=by
   have:=AQ hz';rw [List.drop_zero]at this;exact this
  have hp0:=qm11 true (s[0]'hz) c w hc
  cases hd:dotB (s[0]'hz)with
  | false=>
   rw [hd]at hp0;have hne46:¬ s.data.toList.head?=some 46:=by rw [hsp];simp;intro q;rw [(qz12 _).2 q]at hd;cases hd
   have e1:R1=ByteArray.empty:=by rw [← hR1];unfold dotL;rw [if_neg hne46];rfl
   have e2:s=R2:=by rw [← hR2];unfold dotR;rw [if_neg hne46];rfl
   subst e1 e2;have HB1:=Aside0.mk (((Ao B w).setCell (p:=⟨c,0,none⟩) hcB (Ae false)).setCell (p:=⟨b,0,none⟩) hb (Ac s));have HC1:=Aside0.mk ((h.other (c:=c) (u:= Ae false) hne).set (u:= Ac s));have c0:=h.at;have hb1:=h.other (c:=c) (u:= Ae false) hne;have c1:=hb1.at;have f1:=hb1.free;clear hR1 hR2 hsp hd hne46 h hc hb1;go_enter Tryz.func184,Tryz.ntmps184;go_wp2;go_loop [4] (fun i=>i= Aa Ab 0) (fun _=>0)
   case atStart=>rfl
   case round=>
    obtain rfl:=hrel;go_wp2_with fail
    refine hp0.mono ?_;rintro e w' ⟨rfl,rfl⟩;go_wp2_with fail
    go_ret;exact⟨rfl,HC1.out,HB1.out⟩
  | true=>
   rw [hd]at hp0;have h46:s.data.toList.head?=some 46:=by rw [hsp];simp;exact(qz12 _).1 hd
   have e1:R1=s.extract 0 1:=by rw [← hR1];unfold dotL;rw [if_pos h46];exact qb2 (by rw [qk1,qa1,hsp];simp [(qz12 _).1 hd])
   have e2:R2=(if 1<s.size then s.extract 1 s.size else ByteArray.empty):=by
    rw [← hR2];unfold dotR;rw [if_pos h46]
    split
    ·exact qb2 (by rw [qk1,qa1,List.take_of_length_le (by rw [Bf,← A8];omega),List.drop_one])
    ·rw [List.eq_nil_of_length_eq_zero (l:=s.data.toList.tail) (by rw [List.length_tail,← A8];omega)];rfl
   subst e1;have hB1:=(Ao B w).setCell (p:=⟨c,0,none⟩) hcB (Ae false);have hb1:=h.other (c:=c) (u:= Ae false) hne;have hb2:=hb1.other (c:=c) (u:= Ae false) hne;have c0:=h.at;have c1:=hb1.at;have f1:=hb1.free;have c2:=hb2.at;have f2:=hb2.free;have hp1:=fun d=>qm11 false d c (w.setCell ⟨c,0,none⟩ (Ae false)) hc.set;have HB1:=Aside0.mk (hB1.setCell (p:=⟨b,0,none⟩) hb (Ac R2));have HB2:=Aside0.mk ((hB1.setCell (p:=⟨c,0,none⟩) hcB (Ae false)).setCell (p:=⟨b,0,none⟩) hb (Ac R2));have HC1:=Aside0.mk (hb1.set (u:= Ac R2));have HC2:=Aside0.mk (hb2.set (u:= Ac R2));clear hR1 hR2 hsp hd h46 h hc hb1 hb2 hB1;have HE:=Aside0.mk e2;clear e2;go_enter Tryz.func184,Tryz.ntmps184;go_wp2;go_loopg [4] 1 (fun kq v4 w'=>(kq=1∧v4= Aa Ab 0∧w'=w)∨(kq=0∧v4= Aa Ab 1∧w'=w.setCell ⟨c,0,none⟩ (Ae false)))
   case atStart=>exact .inl ⟨rfl,rfl,rfl⟩
   case round=>
    rcases hrel with ⟨rfl,rfl,rfl⟩ | ⟨rfl,rfl,rfl⟩
    ·go_wp2_with fail
     refine hp0.mono ?_;rintro e w' ⟨rfl,rfl⟩;go_wp2_with fail
     go_roundg 0
     case measure=>omega
     case rel=>exact .inr ⟨rfl,rfl,rfl⟩
    ·by_cases h1:1<s.size
     ·have e2:=HE.out;rw [if_pos h1]at e2;subst e2;have hp2:=hp1 (s[1]'h1);clear hp1 hp0;go_wp2_with fail
      refine hp2.mono ?_;rintro e w' ⟨rfl,rfl⟩;go_wp2_with fail
      go_ret;exact⟨rfl,HC2.out,HB2.out⟩
     ·have e2:=HE.out;rw [if_neg h1]at e2;subst e2;have h2:s.size=1:=by omega
      clear HE;clear hp1 hp0;go_wp2_with fail
      go_ret;exact⟨rfl,HC1.out,HB1.out⟩
 ·have hnil:s.data.toList= []:=List.length_eq_zero_iff.1 za5;have e1:R1=ByteArray.empty:=by rw [← hR1,hnil];rfl
  have e2:s=R2:=by rw [← hR2,hnil];exact qb2 (by rw [hnil];rfl)
  subst e1 e2;have HB1:=Aside0.mk ((Ao B w).setCell (p:=⟨b,0,none⟩) hb (Ac s));have HC1:=Aside0.mk (h.set (u:= Ac s));have c0:=h.at;have f0:=h.free;clear hR1 hR2 hnil h hc;go_enter Tryz.func184,Tryz.ntmps184;go_wp2;go_loop [4] (fun i=>i= Aa Ab 0) (fun _=>0)
  case atStart=>rfl
  case round=>
   obtain rfl:=hrel;go_wp2_with fail
   go_ret;exact⟨rfl,HC1.out,HB1.out⟩
def qo2 (s:List UInt8):List UInt8 × List UInt8 × Bool:=
 let r:=s.dropWhile qr1
 let a:=s.takeWhile qr1
 let b:=if r.head?=some 46 then r.tail.takeWhile qr1 else []
 let z:=if r.head?=some 46 then r.tail.dropWhile qr1 else r
 (a,b,z.isEmpty && (!a.isEmpty || !b.isEmpty))
theorem qt17 (s:ByteArray) (w:World):Calls Am 144 #[Ac s] w fun e w'=>e= .returned (.func (.func 184) #[] #[.pointer (some ⟨w.heap.size,0,none⟩)])∧w'=w.alloc (Af #[Ac s] 9):=by
 go_enter Tryz.func144,Tryz.ntmps144;go_wp2;go_ret;exact⟨rfl,rfl⟩
end Go.Proofs.YtocdckniokhbbaaGreatDoor.FigD
namespace Go.Proofs.YtocdckniokhbbaaGreatDoor.FigE
open Go.RowKit Go.Shelf YtocdckniokhbbaaGreatDoorW.PrintWords YtocdckniokhbbaaGreatDoorW.PrintLast YtocdckniokhbbaaGreatDoorW.PrintMore CharB CharD SpanA FigA FigC FigD
def Keeps (b:Nat) (w w':World):Prop:=∀ c v t,c≠b→Cell c v t w→Cell c v t w'
theorem qs23 {P:Program} {f:FuncId} {args:Array Value} {w:World} {b B:Nat} {s:ByteArray} {x y:List UInt8} (h:Cell b (Ac s) 9 w) (hB:B≤b)
  (hc:Calls P f args w fun e w'=>e= .returned (Ac (ba x))∧w'=w.setCell ⟨b,0,none⟩ (Ac (ba y))) :
  Calls P f args w fun e w'=>e= .returned (Ac (ba x))∧Cell b (Ac (ba y)) 9 w'∧Below B w w'∧Keeps b w w':=by
 refine hc.mono ?_;rintro e w' ⟨rfl,rfl⟩;exact⟨rfl,h.set,(Ao B w).setCell (p:=⟨b,0,none⟩) hB _,fun c v t hne hv=>hv.other (fun e=>hne e.symm)⟩
theorem qs11 (a:List UInt8):(ba a).toList=a:=by rw [AB,qa1]
theorem qn11 (s:ByteArray) (w:World) (hs:s.size≤1000000000) :
  Calls Am 123 #[Ac s] w fun e w'=>e= .returned (.tuple #[Ac (ba (qo2 s.data.toList).1),Ac (ba (qo2 s.data.toList).2.1),Ae (qo2 s.data.toList).2.2])∧Below w.heap.size w w':=by
 have W:=fun a:List UInt8=>(Bn (l:=a) qr1).length_le;have c1:∀ w1,Cell w.heap.size (Ac s) 9 w1→_:=fun w1 h=>qs23 h (Ag _) (qc11 s w.heap.size w1 hs h);have hl0:=W s.data.toList;rw [← A8]at hl0;obtain⟨r,hr⟩:∃ r,s.data.toList.dropWhile qr1=r:=⟨_,rfl⟩;obtain⟨a,ha⟩:∃ a,s.data.toList.takeWhile qr1=a:=⟨_,rfl⟩;have c2:∀ w1,Cell w.heap.size (Ac (ba r)) 9 w1→Cell (w.heap.size+1) (Ae true) 4 w1→_:=fun w1 h hc=>qu17 (ba r) w.heap.size (w.heap.size+1) w.heap.size w1 (by rw [qj1,← hr];omega) h hc (by omega) (Ag _) (by omega);have hps:qo2 s.data.toList=(a,if r.head?=some 46 then r.tail.takeWhile qr1 else [],(if r.head?=some 46 then r.tail.dropWhile qr1 else r).isEmpty && (!a.isEmpty || !(if r.head?=some 46 then r.tail.takeWhile qr1 else []).isEmpty)):=by rw [← hr,← ha];rfl
 rw [hr,ha]at c1;rw [hr]at hl0;rw [hps];simp only;have hrl:r.length≤1000000000:=by omega
 clear hps hr ha hl0;have ta:=qs11 a
 have two:∀ w1,w1=(w.alloc (Af #[Ac s] 9)).alloc (Af #[Ae true] 4)→Cell w.heap.size (Ac s) 9 w1∧Cell (w.heap.size+1) (Ae true) 4 w1∧Below w.heap.size w w1:=by
  rintro w1 rfl;refine⟨qa (qm w _) _,?_,((Ao _ _).alloc (Ag _) _).alloc (by simp) _⟩;have:=qm (w.alloc (Af #[Ac s] 9)) (Af #[Ae true] 4);have e:(w.alloc (Af #[Ac s] 9)).heap.size=w.heap.size+1:=by simp
  rw [e]at this;exact this
 have ct:=qt17 s w;by_cases hdot:r.head?=some 46
 ·have e1:dotL r= [46]:=by unfold dotL;rw [if_pos hdot]
  have e2:dotR r=r.tail:=by unfold dotR;rw [if_pos hdot]
  rw [qa1,e1,e2]at c2;simp only [if_pos hdot];have hl1:r.tail.length≤1000000000:=by rw [List.length_tail];omega
  generalize r.tail=q at *;clear e1 e2 hdot;have c3:∀ w1,Cell w.heap.size (Ac (ba q)) 9 w1→_:=fun w1 h=>qs23 h (Ag _) (qc11 (ba q) w.heap.size w1 (by rw [qj1];omega) h);rw [qa1]at c3;have hl2:=W q;generalize q.takeWhile qr1=b at *;generalize q.dropWhile qr1=z at *;have c4:∀ w1,Cell w.heap.size (Ac (ba z)) 9 w1→_:=fun w1 h=>qs23 h (Ag _) (qp16 (ba z) w.heap.size w1 (by rw [qj1];omega) h);have hz0:z.takeWhile (fun _=>true)=z:=by have:=(qq4 (p:=fun _=>true) z [] (by simp) (by simp)).1;simpa using this
  rw [qa1,hz0]at c4;clear hz0 hl2 W hrl hl1;have td:(ba [46]).toList= [46]:=qs11 _;have tz:=qs11 z;have tb:=qs11 b;go_enter Tryz.func123,Tryz.ntmps123;go_wp2_with fail
  refine ct.mono ?_;rintro e w1 ⟨rfl,rfl⟩;go_wp2_with fail
  refine(c1 _ (two _ rfl).1).mono ?_;rintro e w1 ⟨rfl,h1,b1,k1⟩;have hc1:=k1 _ _ _ (by omega) (two _ rfl).2.1;have B1:=Aside0.mk ((two _ rfl).2.2.trans b1);clear two b1 k1 c1;go_wp2_with fail
  refine(c2 w1 h1 hc1).mono ?_;rintro e w2 ⟨rfl,h2,b2⟩;have B2:=Aside0.mk (B1.out.trans b2);clear b2 c2 h1 hc1 B1;go_wp2_with fail
  refine(c3 w2 h2).mono ?_;rintro e w3 ⟨rfl,h3,b3,_⟩;have B3:=Aside0.mk (B2.out.trans b3);clear b3 c3 h2 B2;go_wp2_with fail
  refine(c4 w3 h3).mono ?_;rintro e w4 ⟨rfl,_,b4,_⟩;have B4:=Aside0.mk (B3.out.trans b4);clear b4 c4 h3 B3;go_wp2_with fail
  all_goals
   go_ret3;exact⟨by simp [*],B4.out⟩
 ·have e1:dotL r= []:=by unfold dotL;rw [if_neg hdot]
  have e2:dotR r=r:=by unfold dotR;rw [if_neg hdot]
  rw [qa1,e1,e2]at c2;simp only [if_neg hdot];clear e1 e2 hdot;have c4:∀ w1,Cell w.heap.size (Ac (ba r)) 9 w1→_:=fun w1 h=>qs23 h (Ag _) (qp16 (ba r) w.heap.size w1 (by rw [qj1];omega) h);have hz0:r.takeWhile (fun _=>true)=r:=by have:=(qq4 (p:=fun _=>true) r [] (by simp) (by simp)).1;simpa using this
  rw [qa1,hz0]at c4;clear hz0 W hrl;have td:(ba []).toList= []:=qs11 _;have tz:=qs11 r;go_enter Tryz.func123,Tryz.ntmps123;go_wp2_with fail
  refine ct.mono ?_;rintro e w1 ⟨rfl,rfl⟩;go_wp2_with fail
  refine(c1 _ (two _ rfl).1).mono ?_;rintro e w1 ⟨rfl,h1,b1,k1⟩;have hc1:=k1 _ _ _ (by omega) (two _ rfl).2.1;have B1:=Aside0.mk ((two _ rfl).2.2.trans b1);clear two b1 k1 c1;go_wp2_with fail
  refine(c2 w1 h1 hc1).mono ?_;rintro e w2 ⟨rfl,h2,b2⟩;have B2:=Aside0.mk (B1.out.trans b2);clear b2 c2 h1 hc1 B1;go_wp2_with fail
  refine(c4 w2 h2).mono ?_;rintro e w4 ⟨rfl,_,b4,_⟩;have B4:=Aside0.mk (B2.out.trans b4);clear b4 c4 h2 B2;go_wp2_with fail
  all_goals
   go_ret3;exact⟨by simp [*,ba,ByteArray.empty,ByteArray.emptyWithCapacity],B4.out⟩
end Go.Proofs.YtocdckniokhbbaaGreatDoor.FigE
namespace Go.Proofs.YtocdckniokhbbaaGreatDoor.FigF
end Go.Proofs.YtocdckniokhbbaaGreatDoor.FigF
namespace Go.Proofs.YtocdckniokhbbaaGreatDoor.FigG
open Go.RowKit Go.Shelf YtocdckniokhbbaaGreatDoorW.PrintWords YtocdckniokhbbaaGreatDoorW.PrintLast YtocdckniokhbbaaGreatDoorW.PrintMore CharB CharD CharF SpanA DecA DecE FigA FigC FigD FigE FigF
theorem chain {B:Nat} {a b c:World} (h:Below B a b) (hB:B≤a.heap.size) (h2:Below b.heap.size b c):Below B a c:=h.trans (h2.mono (Nat.le_trans hB h.size))
def Box (b:Nat) (t v:Int) (W:World):Prop:=W.heap[b]?=some (Af #[Aa Ab t,Aa Ab v] 24 (0,0))
theorem Box.lt {b:Nat} {t v:Int} {W:World} (h:Box b t v W):b<W.heap.size:=(An.1 h).1
theorem Box.below {b:Nat} {t v:Int} {W W':World} (h:Box b t v W) (hb:Below W.heap.size W W'):Box b t v W':=(hb.block b h.lt).trans h
theorem Box.c0 {b:Nat} {t v:Int} {W:World} (h:Box b t v W):W.cell? ⟨b,0,none⟩=some (Aa Ab t):=by rw [qu h];rfl
theorem Box.c1 {b:Nat} {t v:Int} {W:World} (h:Box b t v W):W.cell? ⟨b,1,none⟩=some (Aa Ab v):=by rw [qu h];rfl
theorem Box.fr {b:Nat} {t v:Int} {W:World} (h:Box b t v W) (i:Nat):W.frozen? ⟨b,i,none⟩=false:=Bb h i
theorem Box.put {b:Nat} {t v t' v':Int} {W:World} (h:Box b t v W):Box b t' v' ((W.setCell ⟨b,0,none⟩ (Aa Ab t')).setCell ⟨b,1,none⟩ (Aa Ab v')):=by
 unfold Box at h ⊢;exact qh (cs:= #[Aa Ab t',Aa Ab v]) (qh (cs:= #[Aa Ab t,Aa Ab v]) h 0 _ rfl) 1 _ rfl
theorem qw3 (t v:Int) (w:World):Box w.heap.size t v (w.alloc (Af #[Aa Ab t,Aa Ab v] 24)):=qm w _
end Go.Proofs.YtocdckniokhbbaaGreatDoor.FigG
