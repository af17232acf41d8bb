import Derived.Test.YtocdckniokhbbaaGreatDoorZkZz
import Derived.Test.YtocdckniokhbbaaGreatDoorZkFigC
import Derived.Test.YtocdckniokhbbaaGreatDoorZkDecD
set_option linter.unusedVariables false
set_option linter.unusedSimpArgs false
open Go.Lib renaming decodeL→Bk
open Option renaming some→Ay,bind_some→AH
open Prod.mk renaming injEq→AU
open Bool renaming and_eq_true→AF,or_eq_true→Br,false_and→AN,true_and→AL,false_eq_true→AS
open List renaming takeWhile_cons→BE,length_append→Ar,length_cons→AK,cons_append→Bf,nil_append→Bo
namespace Go.Proofs.YtocdckniokhbbaaGreatDoor.Txt
end Go.Proofs.YtocdckniokhbbaaGreatDoor.Txt
namespace Go.Proofs.YtocdckniokhbbaaGreatDoor.LexA
open Go.RowKit YtocdckniokhbbaaGreatDoorW.PrintWords YtocdckniokhbbaaGreatDoorW.PrintLast YtocdckniokhbbaaGreatDoorW.PrintMore CharA CharB CharD CharF SpanA FigA FigC Txt
abbrev Wd:=Int × List UInt8 × Int × Int
def marksL:List (List UInt8):=[[46,46],[58,58],[40],[41],[91],[93],[46],[64],[44]]
def opsL:List (List UInt8):=[[47,47],[33,61],[60,61],[62,61],[47],[124],[43],[45],[61],[60],[62]]
def opensL:List (List UInt8):=[[64],[58,58],[40],[91],[44]]
def fourL:List (List UInt8):=[[97,110,100],[111,114],[109,111,100],[100,105,118]]
def typesL:List (List UInt8):=[[99,111,109,109,101,110,116],[116,101,120,116],[112,114,111,99,101,115,115,105,110,103,45,105,110,115,116,114,117,99,116,105,111,110],[110,111,100,101]]
def qq1 (l:List (List UInt8)) (s:List UInt8):Option (List UInt8):=l.find? (·.isPrefixOf s)
def qe3 (l:List Wd):Bool:=match l.getLast? with
 | none=>false
 | some w=>if w.1=5 then false else if w.1=1 then !(opensL.contains w.2.1)else true
def qk17:Nat→List UInt8→List UInt8
 | 0,_=>[]
 | n+1,s=>if s= []then []else if qh9 ((Bk s).1:Int)=true then s.take (Bk s).2 ++ qk17 n (s.drop (Bk s).2)else []
def qi4 (s:List UInt8):List UInt8:=qk17 s.length s
def qm13 (c:UInt8):List UInt8→Option (List UInt8 × List UInt8)
 | []=>none
 | d :: t=>if d=c then some ([],t)else match qm13 c t with | some (a,r)=>some (d :: a,r) | none=>none
def ql5 (s:List UInt8):List UInt8:=if(s.dropWhile qb2).head?=some 46 then s.takeWhile qb2 ++ 46 :: (s.dropWhile qb2).tail.takeWhile qb2 else s.takeWhile qb2
def qu16 (x r:List UInt8):Int:=if([40]:List UInt8).isPrefixOf (r.dropWhile spB)then(if typesL.contains x then 4 else 6)else if([58,58]:List UInt8).isPrefixOf (r.dropWhile spB)then 7 else 2
def qq16 (s:List UInt8):Bool:=match s with | []=>false | c :: t=>qb2 c || (c == 46 && (match t with | []=>false | d :: _=>qb2 d))
def litW (c:UInt8) (t:List UInt8):Option (Wd × List UInt8):=match qm13 c t with | some (a,r)=>some ((8,a,0,0),r) | none=>none
def numW (s:List UInt8):Option (Wd × List UInt8):=if(qt7 (ql5 s)).2=true∧(qt7 (ql5 s)).1.1=0 then some ((9,ql5 s,(qt7 (ql5 s)).1),s.drop (ql5 s).length)else none
def varW (t:List UInt8):Option (Wd × List UInt8):=if qf4 (ba (qi4 t))=true then some ((10,qi4 t,0,0),t.drop (qi4 t).length)else none
def qh10 (s:List UInt8) (e:Bool):Option (Wd × List UInt8):=
 if qf4 (ba (qi4 s))=true then(if e=true then(if fourL.contains (qi4 s)=true then some ((5,qi4 s,0,0),s.drop (qi4 s).length)else none)else some ((qu16 (qi4 s) (s.drop (qi4 s).length),qi4 s,0,0),s.drop (qi4 s).length))else none
def oneW (s:List UInt8) (e:Bool):Option (Wd × List UInt8):=
 match s with
 | []=>none
 | c :: t=>
  if c=34∨c=39 then litW c t
  else if qq16 s=true then numW s
  else match qq1 marksL s with
   | some m=>some ((1,m,0,0),s.drop m.length)
   | none=>match qq1 opsL s with
    | some m=>some ((5,m,0,0),s.drop m.length)
    | none=>if c=42 then some ((if e=true then 5 else 3,[42],0,0),t)else if c=36 then varW t else qh10 s e
def qo8:Nat→List UInt8→List Wd→List Wd × Int
 | 0,_,acc=>(acc,0)
 | n+1,s,acc=>if s= []then(acc,0)else match oneW s (qe3 acc)with | none=>([],30) | some (w,r)=>if 120<acc.length+1 then([],3)else qo8 n (r.dropWhile spB) (acc ++ [w])
def qi10 (s:List UInt8):List Wd × Int:=if 400<s.length then([],3)else if qc10 (ba s)=true then qo8 s.length (s.dropWhile spB) []else([],10)
theorem qq8 (c:UInt8):∀ (t a r:List UInt8),qm13 c t=some (a,r)→t=a ++ c :: r∧ ∀ x ∈ a,x≠c
 | [],a,r,h=>by cases h
 | d :: t,a,r,h=>by
  simp only [qm13]at h;by_cases hd:d=c
  ·rw [if_pos hd]at h;cases h;rw [hd];exact⟨rfl,fun x hx=>by cases hx⟩
  ·rw [if_neg hd]at h
   cases hq:qm13 c t with
   | none=>rw [hq]at h;cases h
   | some q=>
    obtain⟨a',r'⟩:=q;rw [hq]at h;simp only [Ay.injEq,AU]at h;obtain⟨rfl,rfl⟩:=h;obtain⟨h1,h2⟩:=qq8 c t a' r' hq;refine⟨by rw [h1];rfl,fun x hx=>?_⟩
    rcases List.mem_cons.1 hx with rfl | hx
    ·exact hd
    ·exact h2 x hx
theorem qp8 {l:List (List UInt8)} {s m:List UInt8} (h:qq1 l s=some m):m ∈ l∧m.isPrefixOf s=true:=by
 unfold qq1 at h;exact⟨List.mem_of_find?_eq_some h,by have:=List.find?_some h;exact this⟩
theorem qc19 {m s:List UInt8} (h:m.isPrefixOf s=true):m.length≤s.length:=(List.isPrefixOf_iff_prefix.1 h).length_le
theorem qm23 (m:List UInt8) (h:m ∈ marksL):1≤m.length:=by
 unfold marksL at h;simp at h
 rcases h with rfl | rfl | rfl | rfl | rfl | rfl | rfl | rfl | rfl<;>decide
theorem ops_ne (m:List UInt8) (h:m ∈ opsL):1≤m.length:=by
 unfold opsL at h;simp at h
 rcases h with rfl | rfl | rfl | rfl | rfl | rfl | rfl | rfl | rfl | rfl | rfl<;>decide
theorem num_len {c:UInt8} {t:List UInt8} (h:qq16 (c :: t)=true):1≤(ql5 (c :: t)).length:=by
 unfold qq16 at h;simp only [Br,AF,beq_iff_eq]at h;unfold ql5;by_cases hd:qb2 c=true
 ·split<;>simp [BE,hd]
 ·rcases h with h | ⟨h,_⟩
  ·exact absurd h hd
  ·subst h;rw [List.dropWhile_cons,if_neg hd];simp;omega
theorem qj23 {x:List UInt8} (h:qf4 (ba x)=true):1≤x.length:=by
 unfold qf4 at h;rw [qs1]at h;by_cases h1:x.length<1
 ·rw [if_pos h1]at h;cases h
 ·omega
theorem qf15:∀ (n:Nat) (s:List UInt8),(qk17 n s).length≤s.length
 | 0,s=>by simp [qk17]
 | n+1,s=>by
  simp only [qk17]
  split
  ·simp
  ·split
   ·have:=qf15 n (s.drop (Bk s).2);rw [Ar,List.length_take];rw [List.length_drop]at this;omega
   ·simp
theorem qj15 {s:List UInt8} {e:Bool} {w:Wd} {r:List UInt8} (h:oneW s e=some (w,r)):r.length<s.length:=by
 cases s with
 | nil=>cases h
 | cons c t=>
  simp only [oneW]at h
  split at h
  ·unfold litW at h
   cases hq:qm13 c t with
   | none=>rw [hq]at h;cases h
   | some q=>
    obtain⟨a,r'⟩:=q;rw [hq]at h
    cases h
    have:=(qq8 c t a r hq).1;rw [this];simp;omega
  split at h
  ·rename_i hn
   have:=num_len hn;unfold numW at h
   split at h
   ·cases h
    rw [List.length_drop,AK];omega
   ·cases h
  split at h
  ·rename_i m hm
   have:=qm23 m (qp8 hm).1
   cases h
   rw [List.length_drop,AK];omega
  split at h
  ·rename_i m hm
   have:=ops_ne m (qp8 hm).1
   cases h
   rw [List.length_drop,AK];omega
  split at h
  ·cases h;simp
  split at h
  ·unfold varW at h
   split at h
   ·cases h
    rw [List.length_drop,AK];omega
   ·cases h
  ·unfold qh10 at h
   have fin:∀ v:Wd,some (v,(c :: t).drop (qi4 (c :: t)).length)=some (w,r)→qf4 (ba (qi4 (c :: t)))=true→r.length<(c :: t).length:=by
    intro v hv hn;have:=qj23 hn;have hr:=congrArg Prod.snd (Ay.inj hv);simp only at hr;rw [← hr,List.length_drop,AK];omega
   split at h
   ·rename_i hn
    split at h
    ·split at h
     ·exact fin _ h hn
     ·cases h
    ·exact fin _ h hn
   ·cases h
theorem ql13 (p:UInt8→Bool) (l:List UInt8):(l.dropWhile p).length≤l.length:=(List.dropWhile_sublist p).length_le
theorem qs19 (s:List UInt8):(ql5 s).length≤s.length:=by
 have h:s.takeWhile qb2 ++ s.dropWhile qb2=s:=List.takeWhile_append_dropWhile;have hl:=congrArg List.length h;rw [Ar]at hl;unfold ql5
 split
 ·rename_i h2
  cases hr:s.dropWhile qb2 with
  | nil=>rw [hr]at h2;simp at h2
  | cons a t=>
   rw [hr]at hl;have:=(List.takeWhile_sublist (l:=t) qb2).length_le;simp at hl ⊢;omega
 ·omega
end Go.Proofs.YtocdckniokhbbaaGreatDoor.LexA
namespace Go.Proofs.YtocdckniokhbbaaGreatDoor.Syn
open LexA
mutual
inductive Ex where
 | mk (op:Int) (s:List UInt8) (v t:Int) (abs:Bool) (kids:List Ex) (steps:List St)
inductive St where
 | mk (axis kind:Int) (name:List UInt8) (has:Bool) (preds:List Ex)
end
def ex0:Ex:= .mk 0 [] 0 0 false [] []
def mkW (op:Int) (l:List Ex):Ex:= .mk op [] 0 0 false l []
def anyT:St:= .mk 11 3 [] false []
def isW (k:Int) (s:List UInt8):List Wd→Bool
 | w :: _=>w.1 == k && w.2.1 == s
 | []=>false
def ofW (k:Int):List Wd→Bool
 | w :: _=>w.1 == k
 | []=>false
def takeW (k:Int) (s:List UInt8):List Wd→Option (List Wd)
 | w :: r=>if w.1 == k && w.2.1 == s then some r else none
 | []=>none
def qd2 (n:Nat):List (List UInt8 × Int):=match n with
 | 0=>[([111,114],1)]
 | 1=>[([97,110,100],2)]
 | 2=>[([61],3),([33,61],4)]
 | 3=>[([60],5),([62],7),([60,61],6),([62,61],8)]
 | 4=>[([43],9),([45],10)]
 | 5=>[([42],11),([100,105,118],12),([109,111,100],13)]
 | _=>[]
def opOf (k:Nat):List Wd→Option (Int × List Wd)
 | w :: r=>if w.1 == 5 then((qd2 k).find? (fun o=>o.1 == w.2.1)).map fun o=>(o.2,r)else none
 | []=>none
def qf2 (r:List Wd):Bool:=ofW 10 r || ofW 8 r || ofW 9 r || ofW 6 r || isW 1 [40] r
def qn10 (r:List Wd):Bool:=ofW 7 r || ofW 2 r || ofW 3 r || ofW 4 r || isW 1 [46] r || isW 1 [46,46] r || isW 1 [64] r
def axesL:List (List UInt8):=[[99,104,105,108,100],[100,101,115,99,101,110,100,97,110,116],[112,97,114,101,110,116],[97,110,99,101,115,116,111,114],[102,111,108,108,111,119,105,110,103,45,115,105,98,108,105,110,103],[112,114,101,99,101,100,105,110,103,45,115,105,98,108,105,110,103],[102,111,108,108,111,119,105,110,103],[112,114,101,99,101,100,105,110,103],[97,116,116,114,105,98,117,116,101],[115,101,108,102],[100,101,115,99,101,110,100,97,110,116,45,111,114,45,115,101,108,102],[97,110,99,101,115,116,111,114,45,111,114,45,115,101,108,102]]
def qp1 (s:List UInt8):Int:=if axesL.contains s then(axesL.idxOf s:Int)+1 else 0
def qj8 (r:List Wd):Option (Int × List Wd):=
 match takeW 1 [64] r with
 | some r1=>some (9,r1)
 | none=>match r with
  | []=>some (1,[])
  | w :: r1=>if w.1 == 7 then(if qp1 w.2.1=0 then none else(takeW 1 [58,58] r1).map fun r2=>(qp1 w.2.1,r2))else some (1,w :: r1)
def qi2:List UInt8:=[99,111,109,109,101,110,116]
def qj7:List UInt8:=[116,101,120,116]
def tPI:List UInt8:=[112,114,111,99,101,115,115,105,110,103,45,105,110,115,116,114,117,99,116,105,111,110]
def qi3:List Wd→Option ((Int × List UInt8 × Bool) × List Wd)
 | []=>none
 | w :: r=>if w.1 == 2 then some ((1,w.2.1,false),r)else if w.1 == 3 then some ((2,[],false),r)else if w.1 == 4 then
   (takeW 1 [40] r).bind fun r1=>
    if w.2.1=qi2 then(takeW 1 [41] r1).map fun r2=>((5,[],false),r2)
    else if w.2.1=qj7 then(takeW 1 [41] r1).map fun r2=>((4,[],false),r2)
    else if w.2.1=tPI then(match r1 with
     | []=>none
     | v :: r2=>if v.1 == 8 then(takeW 1 [41] r2).map fun r3=>((6,v.2.1,true),r3)else(takeW 1 [41] r1).map fun r3=>((6,[],false),r3))
    else(takeW 1 [41] r1).map fun r2=>((3,[],false),r2)
  else none
mutual
def qk3:Nat→Nat→List Wd→Option (Ex × List Wd)
 | 0,_,_=>none
 | n+1,k,r=>if 6≤k then qr4 n r else(qk3 n (k+1) r).bind fun x=>qx6 n k x.1 x.2
def qx6:Nat→Nat→Ex→List Wd→Option (Ex × List Wd)
 | 0,_,_,_=>none
 | n+1,k,e,r=>match opOf k r with
  | none=>some (e,r)
  | some o=>(qk3 n (k+1) o.2).bind fun x=>qx6 n k (mkW o.1 [e,x.1]) x.2
def qr4:Nat→List Wd→Option (Ex × List Wd)
 | 0,_=>none
 | n+1,r=>match takeW 5 [45] r with
  | some r1=>(qr4 n r1).bind fun x=>some (mkW 15 [x.1],x.2)
  | none=>qf6 n r
def qf6:Nat→List Wd→Option (Ex × List Wd)
 | 0,_=>none
 | n+1,r=>(qb6 n r).bind fun x=>qk5 n x.1 x.2
def qk5:Nat→Ex→List Wd→Option (Ex × List Wd)
 | 0,_,_=>none
 | n+1,e,r=>match takeW 5 [124] r with
  | some r1=>(qb6 n r1).bind fun x=>qk5 n (mkW 14 [e,x.1]) x.2
  | none=>some (e,r)
def qb6:Nat→List Wd→Option (Ex × List Wd)
 | 0,_=>none
 | n+1,r=>if qf2 r then(qj4 n r).bind fun x=>if !isW 5 [47] x.2 && !isW 5 [47,47] x.2 then some x else(qn2 n [] x.2).bind fun y=>some (.mk 16 [] 0 0 false [x.1] y.1,y.2)
  else qo21 n r
def qn2:Nat→List St→List Wd→Option (List St × List Wd)
 | 0,_,_=>none
 | n+1,acc,r=>match takeW 5 [47] r with
  | some r1=>(qv2 n r1).bind fun x=>qn2 n (acc ++ [x.1]) x.2
  | none=>match takeW 5 [47,47] r with
   | some r1=>(qv2 n r1).bind fun x=>qn2 n (acc ++ [anyT,x.1]) x.2
   | none=>some (acc,r)
def qo21:Nat→List Wd→Option (Ex × List Wd)
 | 0,_=>none
 | n+1,r=>if isW 5 [47,47] r then(qn2 n [] r).bind fun y=>some (.mk 16 [] 0 0 true [] y.1,y.2)
  else match takeW 5 [47] r with
   | some r1=>if !qn10 r1 then some (.mk 16 [] 0 0 true [] [],r1)else(qv2 n r1).bind fun x=>(qn2 n [x.1] x.2).bind fun y=>some (.mk 16 [] 0 0 true [] y.1,y.2)
   | none=>(qv2 n r).bind fun x=>(qn2 n [x.1] x.2).bind fun y=>some (.mk 16 [] 0 0 false [] y.1,y.2)
def qj4:Nat→List Wd→Option (Ex × List Wd)
 | 0,_=>none
 | n+1,r=>(qh8 n r).bind fun x=>(qv1 n [] x.2).bind fun y=>some (if y.1.isEmpty then x.1 else mkW 17 (x.1 :: y.1),y.2)
def qv1:Nat→List Ex→List Wd→Option (List Ex × List Wd)
 | 0,_,_=>none
 | n+1,acc,r=>match takeW 1 [91] r with
  | none=>some (acc,r)
  | some r1=>(qk3 n 0 r1).bind fun x=>(takeW 1 [93] x.2).bind fun r3=>qv1 n (acc ++ [x.1]) r3
def qh8:Nat→List Wd→Option (Ex × List Wd)
 | 0,_=>none
 | _+1,[]=>none
 | n+1,w :: r=>if w.1 == 10 then some (.mk 21 w.2.1 0 0 false [] [],r)else if w.1 == 8 then some (.mk 18 w.2.1 0 0 false [] [],r)
  else if w.1 == 9 then some (.mk 19 [] w.2.2.1 w.2.2.2 false [] [],r)else if w.1 == 6 then qf10 n w.2.1 r
  else(qk3 n 0 r).bind fun x=>(takeW 1 [41] x.2).bind fun r3=>some (x.1,r3)
def qf10:Nat→List UInt8→List Wd→Option (Ex × List Wd)
 | 0,_,_=>none
 | n+1,s,r=>(takeW 1 [40] r).bind fun r1=>match takeW 1 [41] r1 with
  | some r2=>some (.mk 20 s 0 0 false [] [],r2)
  | none=>(qk3 n 0 r1).bind fun x=>(qy6 n [x.1] x.2).bind fun y=>(takeW 1 [41] y.2).bind fun r4=>some (.mk 20 s 0 0 false y.1 [],r4)
def qy6:Nat→List Ex→List Wd→Option (List Ex × List Wd)
 | 0,_,_=>none
 | n+1,acc,r=>match takeW 1 [44] r with
  | none=>some (acc,r)
  | some r1=>(qk3 n 0 r1).bind fun x=>qy6 n (acc ++ [x.1]) x.2
def qv2:Nat→List Wd→Option (St × List Wd)
 | 0,_=>none
 | n+1,r=>match takeW 1 [46] r with
  | some r1=>some (.mk 10 3 [] false [],r1)
  | none=>match takeW 1 [46,46] r with
   | some r1=>some (.mk 3 3 [] false [],r1)
   | none=>(qj8 r).bind fun h=>(qi3 h.2).bind fun t=>(qv1 n [] t.2).bind fun y=>some (.mk h.1 t.1.1 t.1.2.1 t.1.2.2 y.1,y.2)
end
def qc2 (w:Wd):Bool:=w.1 == 1 && (w.2.1 == [40] || w.2.1 == [91])
def qn1 (w:Wd):Bool:=w.1 == 1 && (w.2.1 == [41] || w.2.1 == [93])
def qv16 (w:Wd):Bool:= !(w.1 == 5) && !(w.1 == 1 && (w.2.1 == [64] || w.2.1 == [58,58] || w.2.1 == [40] || w.2.1 == [91] || w.2.1 == [44]))
def qc6 (w:Wd):Bool:=qv16 w || (w.1 == 5 && w.2.1 == [47])
def nx (n:Int) (w:Wd):Int:=if qc2 w then n+1 else if qn1 w then n - 1 else n
def qu7 (ops:List (List UInt8)) (pe:Bool) (n:Int) (k:Nat) (at_:Option Nat):List Wd→Option Nat
 | []=>at_
 | w :: l=>qu7 ops (qc6 w) (nx n w) (k+1) (if nx n w=0∧w.1=5∧pe=true∧ops.contains w.2.1=true then some k else at_) l
def qw15 (o:List UInt8):List UInt8:=if o= [91]then [93]else [41]
def qs2 (st:List (List UInt8)) (k:Nat):List Wd→Option Nat
 | []=>none
 | w :: l=>if qc2 w then qs2 (w.2.1 :: st) (k+1) l else if qn1 w then(match st with
   | []=>none
   | o :: os=>if w.2.1≠qw15 o then none else if os.isEmpty then some k else qs2 os (k+1) l)
  else qs2 st (k+1) l
def qd6 (n:Int) (cur:List Wd):List Wd→List (List Wd)
 | []=>[cur]
 | w :: l=>if nx n w=0∧(w.1 == 1 && w.2.1 == [44])=true then cur :: qd6 (nx n w) [] l else qd6 (nx n w) (cur ++ [w]) l
def qa5 (rank:Nat):List (List UInt8):=(qd2 rank).map (·.1)
def kindR (s:List UInt8):Int:=match (List.range 6).findSome? (fun k=>((qd2 k).find? (fun o=>o.1 == s)).map (·.2))with | some n=>n | none=>0
mutual
def rOr:Nat→List Wd→Nat→Option Ex
 | 0,_,_=>none
 | n+1,l,rank=>if 6≤rank then qo7 n l else match qu7 (qa5 rank) false 0 0 none l with
  | none=>rOr n l (rank+1)
  | some k=>(rOr n (l.take k) rank).bind fun a=>(rOr n (l.drop (k+1)) (rank+1)).bind fun b=>some (mkW (kindR (l[k]?.getD (0,[],0,0)).2.1) [a,b])
def qo7:Nat→List Wd→Option Ex
 | 0,_=>none
 | n+1,l=>match takeW 5 [45] l with
  | some l1=>(qo7 n l1).bind fun a=>some (mkW 15 [a])
  | none=>qw4 n l
def qw4:Nat→List Wd→Option Ex
 | 0,_=>none
 | n+1,l=>match qu7 [[124]] false 0 0 none l with
  | none=>qf14 n l
  | some k=>(qw4 n (l.take k)).bind fun a=>(qf14 n (l.drop (k+1))).bind fun b=>some (mkW 14 [a,b])
def qf14:Nat→List Wd→Option Ex
 | 0,_=>none
 | n+1,l=>if l.isEmpty then none else if qf2 l then(qi6 n l).bind fun x=>(qv6 n x.2).bind fun y=>
   if y.2.isEmpty then some (if y.1.isEmpty then x.1 else mkW 17 (x.1 :: y.1))else(qx4 n y.2).bind fun s=>some (.mk 16 [] 0 0 false [if y.1.isEmpty then x.1 else mkW 17 (x.1 :: y.1)] s)
  else rLoc n l
def qi6:Nat→List Wd→Option (Ex × List Wd)
 | 0,_=>none
 | _+1,[]=>none
 | n+1,w :: r=>if w.1 == 10 then some (.mk 21 w.2.1 0 0 false [] [],r)else if w.1 == 8 then some (.mk 18 w.2.1 0 0 false [] [],r)
  else if w.1 == 9 then some (.mk 19 [] w.2.2.1 w.2.2.2 false [] [],r)
  else if w.1 == 6 then(if isW 1 [40] r then match qs2 [] 0 r with
    | none=>none
    | some tt=>if tt=1 then some (.mk 20 w.2.1 0 0 false [] [],r.drop 2)else(qg16 n (qd6 0 [] ((r.take tt).drop 1))).bind fun ks=>some (.mk 20 w.2.1 0 0 false ks [],r.drop (tt+1))
   else none)
  else if isW 1 [40] (w :: r)then match qs2 [] 0 (w :: r)with
    | none=>none
    | some tt=>(rOr n (((w :: r).take tt).drop 1) 0).bind fun e=>some (e,(w :: r).drop (tt+1))
   else none
def qg16:Nat→List (List Wd)→Option (List Ex)
 | 0,_=>none
 | _+1,[]=>some []
 | n+1,p :: ps=>(rOr n p 0).bind fun e=>(qg16 n ps).bind fun es=>some (e :: es)
def qv6:Nat→List Wd→Option (List Ex × List Wd)
 | 0,_=>none
 | n+1,l=>if isW 1 [91] l then match qs2 [] 0 l with
    | none=>none
    | some tt=>(rOr n ((l.take tt).drop 1) 0).bind fun e=>(qv6 n (l.drop (tt+1))).bind fun y=>some (e :: y.1,y.2)
   else some ([],l)
def rLoc:Nat→List Wd→Option Ex
 | 0,_=>none
 | n+1,l=>if isW 5 [47] l || isW 5 [47,47] l then(if l.length=1 then(if isW 5 [47] l then some (.mk 16 [] 0 0 true [] [])else none)else(qx4 n l).bind fun s=>some (.mk 16 [] 0 0 true [] s))
  else(qx4 n ((5,[47],0,0) :: l)).bind fun s=>some (.mk 16 [] 0 0 false [] s)
def qx4:Nat→List Wd→Option (List St)
 | 0,_=>none
 | n+1,l=>if l.isEmpty then some []else if isW 5 [47] l then(qa13 n l.tail).bind fun x=>(qx4 n x.2).bind fun ss=>some (x.1 :: ss)
  else if isW 5 [47,47] l then(qa13 n l.tail).bind fun x=>(qx4 n x.2).bind fun ss=>some (anyT :: x.1 :: ss)
  else none
def qa13:Nat→List Wd→Option (St × List Wd)
 | 0,_=>none
 | n+1,r=>match takeW 1 [46] r with
  | some r1=>some (.mk 10 3 [] false [],r1)
  | none=>match takeW 1 [46,46] r with
   | some r1=>some (.mk 3 3 [] false [],r1)
   | none=>(qj8 r).bind fun h=>(qi3 h.2).bind fun t=>(qv6 n t.2).bind fun y=>some (.mk h.1 t.1.1 t.1.2.1 t.1.2.2 y.1,y.2)
end
def qp9 (n:Nat):List Wd→Bool
 | []=>false
 | w :: l=>if 12<(if qc2 w then n+1 else if qn1 w then n - 1 else n)then true else qp9 (if qc2 w then n+1 else if qn1 w then n - 1 else n) l
def qj5 (l:List Wd):Option Ex:=match qk3 (80*l.length+60) 0 l with | some (e,[])=>some e | _=>none
end Go.Proofs.YtocdckniokhbbaaGreatDoor.Syn
namespace Go.Proofs.YtocdckniokhbbaaGreatDoor.Syn
open LexA
def qg3 (p:Bool→Wd→Bool) (pe:Bool) (n:Int):List Wd→Bool
 | []=>true
 | w :: l=> !(decide (nx n w=0) && p pe w) && qg3 p (qc6 w) (nx n w) l
def nOf (n:Int):List Wd→Int
 | []=>n
 | w :: l=>nOf (nx n w) l
def qv9 (pe:Bool):List Wd→Bool
 | []=>pe
 | w :: l=>qv9 (qc6 w) l
theorem qa7 (p:Bool→Wd→Bool):∀ (u v:List Wd) (pe:Bool) (n:Int),qg3 p pe n (u ++ v)=(qg3 p pe n u && qg3 p (qv9 pe u) (nOf n u) v)
 | [],v,pe,n=>by simp [qg3,qv9,nOf]
 | w :: u,v,pe,n=>by simp only [Bf,qg3,qv9,nOf,qa7 p u v,Bool.and_assoc]
theorem ql8:∀ (u v:List Wd) (pe:Bool),qv9 pe (u ++ v)=qv9 (qv9 pe u) v
 | [],v,pe=>rfl
 | w :: u,v,pe=>by simp only [Bf,qv9,ql8 u v]
theorem qu11 {p:Bool→Wd→Bool} (hp:∀ w,p false w=true→p true w=true) {n:Int}:∀ {u:List Wd},qg3 p true n u=true→qg3 p false n u=true
 | [],_=>rfl
 | w :: u,h=>by
  simp only [qg3,AF,Bool.not_eq_true']at h ⊢;refine⟨?_,h.2⟩
  cases hq:p false w with
  | false=>simp
  | true=>rw [hp w hq]at h;exact h.1
theorem qz10 {p q:Bool→Wd→Bool} (hp:∀ b w,q b w=true→p b w=true):∀ {u:List Wd} {pe:Bool} {n:Int},qg3 p pe n u=true→qg3 q pe n u=true
 | [],_,_,_=>rfl
 | w :: u,pe,n,h=>by
  simp only [qg3,AF,Bool.not_eq_true']at h ⊢;refine⟨?_,qz10 hp h.2⟩
  cases hq:q pe w with
  | false=>simp
  | true=>rw [hp pe w hq]at h;exact h.1
def qa6:List (List UInt8)→List Wd→Option (List (List UInt8))
 | s,[]=>some s
 | s,w :: l=>if qc2 w then qa6 (w.2.1 :: s) l else if qn1 w then(match s with | []=>none | o :: os=>if w.2.1=qw15 o then qa6 os l else none)else qa6 s l
theorem qg4:∀ (u v:List Wd) (s:List (List UInt8)),qa6 s (u ++ v)=(qa6 s u).bind fun t=>qa6 t v
 | [],v,s=>rfl
 | w :: u,v,s=>by
  simp only [Bf,qa6]
  split
  ·exact qg4 u v _
  ·split
   ·cases s with
    | nil=>rfl
    | cons o os=>
     simp only []
     split
     ·exact qg4 u v _
     ·rfl
   ·exact qg4 u v _
theorem qg11 {w:Wd} (h:qn1 w=true):qc2 w=false:=by
 unfold qn1 at h;unfold qc2;simp only [AF,Br,beq_iff_eq]at h
 rcases h with ⟨h1,h2 | h2⟩<;>rw [h2]<;>simp<;>(right;constructor<;>decide)
theorem qr5 (st:List (List UInt8)):∀ {u:List Wd} {s s':List (List UInt8)},qa6 s u=some s'→qa6 (s ++ st) u=some (s' ++ st)
 | [],s,s',h=>by cases h;rfl
 | w :: u,s,s',h=>by
  simp only [qa6]at h ⊢
  split at h
  ·rw [if_pos zbc];exact qr5 st (s:=w.2.1 :: s) h
  ·rw [if_neg zbc]
   split at h
   ·rw [if_pos zbc]
    cases s with
    | nil=>cases h
    | cons o os=>
     simp only [Bf]at h ⊢
     split at h
     ·rw [if_pos zbc];exact qr5 st h
     ·cases h
   ·rw [if_neg zbc];exact qr5 st h
theorem qv11:∀ {u:List Wd} {s s':List (List UInt8)} {n:Int},qa6 s u=some s'→nOf n u=n+s'.length - s.length
 | [],s,s',n,h=>by cases h;simp [nOf];try omega
 | w :: u,s,s',n,h=>by
  simp only [qa6]at h;simp only [nOf,nx]
  split at h
  ·rw [if_pos zbc,qv11 h];simp;try omega
  ·rw [if_neg zbc]
   split at h
   ·rw [if_pos zbc]
    cases s with
    | nil=>cases h
    | cons o os=>
     simp only []at h
     split at h
     ·rw [qv11 h];simp;try omega
     ·cases h
   ·rw [if_neg zbc,qv11 h]
theorem qs7 {u:List Wd} {n:Int} (h:qa6 [] u=some []):nOf n u=n:=by rw [qv11 h];simp
theorem qa11 (p:Bool→Wd→Bool) (b:Int) (hb:1≤b):∀ {u:List Wd} {s s':List (List UInt8)} {pe:Bool},qa6 s u=some s'→qg3 p pe (b+s.length) u=true
 | [],s,s',pe,h=>rfl
 | w :: u,s,s',pe,h=>by
  obtain⟨t,h1,h2⟩:∃ t:List (List UInt8),nx (b+s.length) w=b+t.length∧qa6 t u=some s':=by
   simp only [qa6]at h;unfold nx
   split at h
   ·rw [if_pos zbc];exact⟨w.2.1 :: s,za6,h⟩
   ·rw [if_neg zbc]
    split at h
    ·rw [if_pos zbc]
     cases s with
     | nil=>cases h
     | cons o os=>
      simp only []at h
      split at h
      ·exact⟨os,za6,h⟩
      ·cases h
    ·rw [if_neg zbc];exact⟨s,rfl,h⟩
  simp only [qg3];rw [h1,qa11 p b hb h2,decide_eq_false (by omega)];rfl
theorem qq4 (st:List (List UInt8)) (hst:st≠ []) (l:List Wd):∀ {u:List Wd} {s s':List (List UInt8)} {k:Nat},qa6 s u=some s'→qs2 (s ++ st) k (u ++ l)=qs2 (s' ++ st) (k+u.length) l
 | [],s,s',k,h=>by cases h;rfl
 | w :: u,s,s',k,h=>by
  simp only [qa6]at h;simp only [Bf,qs2,AK];rw [show k+(u.length+1)=(k+1)+u.length by omega]
  split at h
  ·rw [if_pos zbc];exact qq4 st hst l (s:=w.2.1 :: s) h
  ·rw [if_neg zbc]
   split at h
   ·rw [if_pos zbc]
    cases s with
    | nil=>cases h
    | cons o os=>
     simp only [Bf]at h ⊢
     split at h
     ·rename_i hw
      rw [if_neg (by rw [hw];simp),if_neg (by simp;intro _;exact hst)];exact qq4 st hst l h
     ·cases h
   ·rw [if_neg zbc];exact qq4 st hst l h
theorem qj6 {o c:Wd} {u l:List Wd} {k:Nat} (ho:qc2 o=true) (hu:qa6 [] u=some []) (hc:qn1 c=true) (hw:c.2.1=qw15 o.2.1):qs2 [] k (o :: (u ++ c :: l))=some (k+1+u.length):=by
 simp only [qs2];rw [if_pos ho];have:=qq4 [o.2.1] (by simp) (c :: l) (k:=k+1) hu;rw [Bo]at this;rw [this];simp only [qs2,Bo];rw [if_neg (by rw [qg11 hc];simp),if_pos hc,if_neg (by rw [hw];simp)];rfl
def pq (ops:List (List UInt8)) (pe:Bool) (w:Wd):Bool:=(w.1 == 5 && pe && ops.contains w.2.1) || (w.1 == 1 && w.2.1 == [44])
theorem pq_pe (ops:List (List UInt8)) (w:Wd) (h:pq ops false w=true):pq ops true w=true:=by
 unfold pq at *;simp only [Bool.and_false,AN,Bool.false_or]at h;rw [h];simp
theorem qp15 {ops ops':List (List UInt8)} (hs:∀ x,ops'.contains x=true→ops.contains x=true) (l:List Wd):∀ {u:List Wd} {pe:Bool} {n:Int} {k:Nat} {a:Option Nat},qg3 (pq ops) pe n u=true →
  qu7 ops' pe n k a (u ++ l)=qu7 ops' (qv9 pe u) (nOf n u) (k+u.length) a l
 | [],pe,n,k,a,h=>rfl
 | w :: u,pe,n,k,a,h=>by
  simp only [qg3,AF,Bool.not_eq_true']at h;simp only [Bf,qu7,qv9,nOf,AK];rw [show k+(u.length+1)=(k+1)+u.length by omega,← qp15 hs l h.2,if_neg];intro ⟨h1,h2,h3,h4⟩;have h5:=h.1;unfold pq at h5;rw [h1,h2,h3,hs _ h4]at h5;simp at h5
theorem qb9 {ops:List (List UInt8)} (l:List Wd):∀ {u:List Wd} {pe:Bool} {n:Int} {cur:List Wd},qg3 (pq ops) pe n u=true→qd6 n cur (u ++ l)=qd6 (nOf n u) (cur ++ u) l
 | [],pe,n,cur,h=>by simp [nOf]
 | w :: u,pe,n,cur,h=>by
  simp only [qg3,AF,Bool.not_eq_true']at h;simp only [Bf,qd6,nOf];rw [if_neg,qb9 l h.2]
  ·simp
  ·intro ⟨h1,h2⟩;have h5:=h.1;unfold pq at h5;rw [h1,h2]at h5;simp at h5
def below (j:Nat):List (List UInt8):=match j with
 | 0=>[]
 | 1=>qa5 0
 | 2=>qa5 0 ++ qa5 1
 | 3=>qa5 0 ++ qa5 1 ++ qa5 2
 | 4=>qa5 0 ++ qa5 1 ++ qa5 2 ++ qa5 3
 | 5=>qa5 0 ++ qa5 1 ++ qa5 2 ++ qa5 3 ++ qa5 4
 | 6=>qa5 0 ++ qa5 1 ++ qa5 2 ++ qa5 3 ++ qa5 4 ++ qa5 5
 | _=>qa5 0 ++ qa5 1 ++ qa5 2 ++ qa5 3 ++ qa5 4 ++ qa5 5 ++ [[124]]
theorem qx5 {a b:List (List UInt8)} {x:List UInt8} (h:a.contains x=true):(a ++ b).contains x=true:=by
 rw [List.contains_append,h];rfl
theorem qe4 {a b:List (List UInt8)} {x:List UInt8} (h:b.contains x=true):(a ++ b).contains x=true:=by
 rw [List.contains_append,h,Bool.or_true]
theorem qi17 (k:Nat) (x:List UInt8) (h:(below k).contains x=true):(below (k+1)).contains x=true:=by
 match k with
 | 0=>simp [below]at h
 | 1=>exact qx5 h
 | 2=>exact qx5 h
 | 3=>exact qx5 h
 | 4=>exact qx5 h
 | 5=>exact qx5 h
 | 6=>exact qx5 h
 | k+7=>exact h
theorem qs24 {j k:Nat} (hjk:j≤k) (x:List UInt8) (h:(below j).contains x=true):(below k).contains x=true:=by
 induction hjk with
 | refl=>exact h
 | step _ ih=>exact qi17 _ _ ih
theorem qt10 (k:Nat) (hk:k<6) (x:List UInt8) (h:(qa5 k).contains x=true):(below (k+1)).contains x=true:=by
 match k,hk with
 | 0,_=>exact h
 | 1,_=>exact qe4 h
 | 2,_=>exact qe4 h
 | 3,_=>exact qe4 h
 | 4,_=>exact qe4 h
 | 5,_=>exact qe4 h
theorem qy18 (k:Nat) (hk:k<6) (x:List UInt8) (h:(qa5 k).contains x=true):(below k).contains x=false:=by
 match k,hk with
 | 0,_=>rfl
 | 1,_=>simp only [qa5,qd2,List.map_cons,List.map_nil,List.contains_cons,List.contains_nil,Bool.or_false,beq_iff_eq]at h;subst h;decide
 | 2,_=>simp only [qa5,qd2,List.map_cons,List.map_nil,List.contains_cons,List.contains_nil,Bool.or_false,Br,beq_iff_eq]at h;rcases h with rfl | rfl<;>decide
 | 3,_=>simp only [qa5,qd2,List.map_cons,List.map_nil,List.contains_cons,List.contains_nil,Bool.or_false,Br,beq_iff_eq]at h;rcases h with rfl | rfl | rfl | rfl<;>decide
 | 4,_=>simp only [qa5,qd2,List.map_cons,List.map_nil,List.contains_cons,List.contains_nil,Bool.or_false,Br,beq_iff_eq]at h;rcases h with rfl | rfl<;>decide
 | 5,_=>simp only [qa5,qd2,List.map_cons,List.map_nil,List.contains_cons,List.contains_nil,Bool.or_false,Br,beq_iff_eq]at h;rcases h with rfl | rfl | rfl<;>decide
structure Good (j:Nat) (u:List Wd):Prop where
 ne:u≠ []
 bal:qa6 [] u=some []
 hit:qg3 (pq (below j)) false 0 u=true
 last:qv9 false u=true
structure Tail (u:List Wd):Prop where
 bal:qa6 [] u=some []
 hit:qg3 (pq (below 7)) true 0 u=true
 last:qv9 true u=true
theorem qg14:∀ {u:List Wd} (h:u≠ []) (a b:Bool),qv9 a u=qv9 b u
 | w :: u,_,a,b=>rfl
theorem pq_le {j k:Nat} (h:j≤k) (b:Bool) (w:Wd) (hq:pq (below j) b w=true):pq (below k) b w=true:=by
 unfold pq at *;simp only [Br,AF]at *
 rcases hq with ⟨⟨h1,h2⟩,h3⟩ | h1
 ·exact .inl ⟨⟨h1,h2⟩,qs24 h _ h3⟩
 ·exact .inr h1
theorem Good.le {j k:Nat} {u:List Wd} (h:Good k u) (hjk:j≤k):Good j u:=⟨h.ne,h.bal,qz10 (pq_le hjk) h.hit,h.last⟩
theorem Tail.good {u:List Wd} (h:Tail u) (hn:u≠ []):Good 7 u:=⟨hn,h.bal,qu11 (pq_pe _) h.hit,(qg14 hn _ _).trans h.last⟩
theorem Tail.nil:Tail []:=⟨rfl,rfl,rfl⟩
theorem Tail.app {u v:List Wd} (h:Tail u) (k:Tail v):Tail (u ++ v):=
 ⟨by rw [qg4,h.bal];exact k.bal,by rw [qa7,h.hit,h.last,qs7 h.bal];exact k.hit,by rw [ql8,h.last];exact k.last⟩
theorem Tail.one {w:Wd} (h1:qc2 w=false) (h2:qn1 w=false) (h3:pq (below 7) true w=false) (h4:qc6 w=true):Tail [w]:=
 ⟨by simp [qa6,h1,h2],by simp [qg3,h3],h4⟩
theorem Tail.brackets {o c:Wd} {u:List Wd} (ho:qc2 o=true) (hu:qa6 [] u=some []) (hc:qn1 c=true) (hw:c.2.1=qw15 o.2.1):Tail (o :: (u ++ [c])):=by
 have hco:=qg11 hc;have hc1:c.1=1:=by unfold qn1 at hc;simp at hc;exact hc.1
 have hc2:c.2.1= [41]∨c.2.1= [93]:=by unfold qn1 at hc;simp at hc;exact hc.2
 refine⟨?_,?_,?_⟩
 ·simp only [qa6];rw [if_pos ho,qg4];have:=qr5 [o.2.1] hu;rw [Bo]at this;rw [this];simp only [AH,qa6,Bo];rw [if_neg (by rw [hco];simp),if_pos hc,if_pos hw]
 ·simp only [qg3];have e:nx 0 o=1:=by unfold nx;rw [if_pos ho];rfl
  rw [e,qa7,qs7 hu];have:qg3 (pq (below 7)) (qc6 o) 1 u=true:=qa11 (pq (below 7)) 1 (by omega) (pe:=qc6 o) hu;rw [this];simp only [qg3,Bool.and_true,AL];have:pq (below 7) (qv9 (qc6 o) u) c=false:=by unfold pq;rw [hc1];rcases hc2 with h | h<;>rw [h]<;>simp
  rw [this];simp
 ·simp only [qv9,ql8];show qc6 c=true;unfold qc6 qv16;rw [hc1]
  rcases hc2 with h | h<;>rw [h]<;>decide
end Go.Proofs.YtocdckniokhbbaaGreatDoor.Syn
namespace Go.Proofs.YtocdckniokhbbaaGreatDoor.Syn
open LexA
theorem qx {α β:Type} {o:Option α} {f:α→Option β} {b:β} (h:o.bind f=some b):∃ a,o=some a∧f a=some b:=by
 cases o with
 | none=>cases h
 | some a=>exact⟨a,rfl,h⟩
theorem qg1 {k:Int} {s:List UInt8} {r r1:List Wd} (h:takeW k s r=some r1):∃ w,r=w :: r1∧w.1=k∧w.2.1=s:=by
 cases r with
 | nil=>cases h
 | cons w r=>
  simp only [takeW]at h
  split at h
  ·rename_i hc
   cases h
   simp only [AF,beq_iff_eq]at hc;exact⟨w,rfl,hc.1,hc.2⟩
  ·cases h
theorem take_of {k:Int} {s:List UInt8} {w:Wd} (r:List Wd) (h1:w.1=k) (h2:w.2.1=s):takeW k s (w :: r)=some r:=by
 simp only [takeW,h1,h2];simp
theorem qm5 {k:Int} {s:List UInt8} {r:List Wd} (h:isW k s r=true):∃ w r1,r=w :: r1∧w.1=k∧w.2.1=s:=by
 cases r with
 | nil=>cases h
 | cons w r=>
  simp only [isW,AF,beq_iff_eq]at h;exact⟨w,r,rfl,h.1,h.2⟩
theorem qx11 {k:Int} {s:List UInt8} {w:Wd} (r:List Wd) (h1:w.1=k) (h2:w.2.1=s):isW k s (w :: r)=true:=by
 simp only [isW,h1,h2];simp
theorem qy4 {k j:Int} {s:List UInt8} {w:Wd} {r:List Wd} (h1:w.1=k) (h2:k≠j):isW j s (w :: r)=false:=by
 simp only [isW,h1];simp [h2]
theorem qf18 {k:Int} {s:List UInt8} {r:List Wd}:(takeW k s r).isSome=isW k s r:=by
 cases r with
 | nil=>rfl
 | cons w r=>
  simp only [takeW,isW]
  split<;>rename_i h
  ·rw [h];rfl
  ·simp only [Bool.not_eq_true]at h;rw [h];rfl
theorem take_none {k:Int} {s:List UInt8} {r:List Wd}:takeW k s r=none↔isW k s r=false:=by
 rw [← qf18];cases takeW k s r<;>simp
theorem qc11 {k:Int} {s:List UInt8} {u r:List Wd} (h:u≠ []):isW k s (u ++ r)=isW k s u:=by
 cases u with
 | nil=>exact absurd rfl h
 | cons w u=>rfl
theorem qk15 {k:Int} {u r:List Wd} (h:u≠ []):ofW k (u ++ r)=ofW k u:=by
 cases u with
 | nil=>exact absurd rfl h
 | cons w u=>rfl
theorem qy5 {u r:List Wd} (h:u≠ []):qf2 (u ++ r)=qf2 u:=by
 unfold qf2;rw [qk15 h,qk15 h,qk15 h,qk15 h,qc11 h]
theorem qi13 (ops:List (List UInt8)) (l:List Wd):∀ (u:List Wd) (pe:Bool) (n:Int) (k:Nat) (a:Option Nat),qu7 ops pe n k a (u ++ l)=qu7 ops (qv9 pe u) (nOf n u) (k+u.length) (qu7 ops pe n k a u) l
 | [],pe,n,k,a=>rfl
 | w :: u,pe,n,k,a=>by
  simp only [Bf,qu7,qv9,nOf,AK];rw [show k+(u.length+1)=(k+1)+u.length by omega,qi13 ops l u]
theorem ql9 {ops ops':List (List UInt8)} (hs:∀ x,ops'.contains x=true→ops.contains x=true) {u:List Wd} {pe:Bool} {n:Int} {k:Nat} {a:Option Nat} (h:qg3 (pq ops) pe n u=true):qu7 ops' pe n k a u=a:=by
 have:=qp15 hs [] (k:=k) (a:=a) h
 rwa [List.append_nil]at this
theorem qt5 {w:Wd} (h:w.1=5):qc2 w=false∧qn1 w=false∧qv16 w=false∧nx 0 w=0:=by
 have h1:qc2 w=false:=by unfold qc2;rw [h];rfl
 have h2:qn1 w=false:=by unfold qn1;rw [h];rfl
 refine⟨h1,h2,by unfold qv16;rw [h];rfl,?_⟩;unfold nx;rw [if_neg (by rw [h1];simp),if_neg (by rw [h2];simp)]
theorem qs11 {w:Wd} (h:w.1=5) (h2:w.2.1≠ [47]):qc6 w=false:=by
 unfold qc6;rw [(qt5 h).2.2.1,h];simp [h2]
theorem Good.op {j:Nat} {u v:List Wd} {w:Wd} (hu:Good j u) (hv:Good (j+1) v) (h5:w.1=5) (hs:w.2.1≠ [47]) (hb:(below j).contains w.2.1=false):Good j (u ++ w :: v):=by
 have hp:=qt5 h5;have hv':=hv.le (Nat.le_succ j);refine⟨by simp,?_,?_,?_⟩
 ·rw [qg4,hu.bal];simp only [AH,qa6,hp.1,hp.2.1,AS,if_false];exact hv.bal
 ·rw [qa7,hu.hit,qs7 hu.bal,hu.last];simp only [qg3,hp.2.2.2,qs11 h5 hs,hv'.hit,AL,Bool.and_true];unfold pq;rw [hb,h5];rfl
 ·rw [ql8];simp only [qv9];rw [qs11 h5 hs];exact hv.last
theorem qe20 {j:Nat} {ops:List (List UInt8)} {u v:List Wd} {w:Wd} (hu:Good j u) (hv:Good (j+1) v) (h5:w.1=5) (hs:w.2.1≠ [47]) (ho:ops.contains w.2.1=true) (hb:∀ x,ops.contains x=true→(below (j+1)).contains x=true):qu7 ops false 0 0 none (u ++ w :: v)=some u.length:=by
 rw [qi13,qs7 hu.bal,hu.last];simp only [qu7];rw [(qt5 h5).2.2.2,qs11 h5 hs,if_pos (by simp only [true_and,h5,ho,and_self]),ql9 hb hv.hit,Nat.zero_add]
theorem rank_op {k:Nat} (hk:k<6) {s:List UInt8} {o:List UInt8 × Int} (h:(qd2 k).find? (fun o=>o.1 == s)=some o):(qa5 k).contains s=true∧kindR s=o.2∧s≠ [47]:=by
 have h1:=List.find?_some h;have h2:=List.mem_of_find?_eq_some h;have h3:o.1=s:=by simpa using h1
 subst h3;clear h h1
 match k,hk with
 | 0,_=>simp only [qd2,List.mem_cons,List.not_mem_nil,or_false]at h2;subst h2;decide
 | 1,_=>simp only [qd2,List.mem_cons,List.not_mem_nil,or_false]at h2;subst h2;decide
 | 2,_=>simp only [qd2,List.mem_cons,List.not_mem_nil,or_false]at h2;rcases h2 with rfl | rfl<;>decide
 | 3,_=>simp only [qd2,List.mem_cons,List.not_mem_nil,or_false]at h2;rcases h2 with rfl | rfl | rfl | rfl<;>decide
 | 4,_=>simp only [qd2,List.mem_cons,List.not_mem_nil,or_false]at h2;rcases h2 with rfl | rfl<;>decide
 | 5,_=>simp only [qd2,List.mem_cons,List.not_mem_nil,or_false]at h2;rcases h2 with rfl | rfl | rfl<;>decide
theorem ql19 {k:Nat} (hk:k<6) {r:List Wd} {o:Int × List Wd} (h:opOf k r=some o):∃ w,r=w :: o.2∧w.1=5∧(qa5 k).contains w.2.1=true∧kindR w.2.1=o.1∧w.2.1≠ [47]:=by
 cases r with
 | nil=>cases h
 | cons w r=>
  simp only [opOf]at h
  split at h
  ·rename_i h5
   cases hf:(qd2 k).find? (fun o=>o.1 == w.2.1)with
   | none=>rw [hf]at h;cases h
   | some q=>
    rw [hf]at h
    cases h
    have:=rank_op hk hf;exact⟨w,rfl,by simpa using h5,this⟩
  ·cases h
theorem qa4 {w:Wd} (h1:w.1≠1) (h5:w.1≠5):Tail [w]:=by
 have e1:(w.1 == 1)=false:=by simpa using h1
 have e5:(w.1 == 5)=false:=by simpa using h5
 refine Tail.one ?_ ?_ ?_ ?_
 ·unfold qc2;rw [e1];rfl
 ·unfold qn1;rw [e1];rfl
 ·unfold pq;rw [e1,e5];rfl
 ·unfold qc6 qv16;rw [e1,e5];rfl
theorem qx20 {w:Wd} (h1:w.1=1) (h2:w.2.1= [46]∨w.2.1= [46,46]):Tail [w]:=by
 refine Tail.one ?_ ?_ ?_ ?_
 ·unfold qc2;rw [h1];rcases h2 with h | h<;>rw [h]<;>decide
 ·unfold qn1;rw [h1];rcases h2 with h | h<;>rw [h]<;>decide
 ·unfold pq;rw [h1];rcases h2 with h | h<;>rw [h]<;>decide
 ·unfold qc6 qv16;rw [h1];rcases h2 with h | h<;>rw [h]<;>decide
theorem qu15 {w:Wd} {u:List Wd} (h5:w.1=5) (h2:w.2.1= [47]∨w.2.1= [47,47]) (hu:Tail u) (hn:u≠ []):Tail (w :: u):=by
 have hp:=qt5 h5;refine⟨?_,?_,?_⟩
 ·simp only [qa6,hp.1,hp.2.1,AS,if_false];exact hu.bal
 ·simp only [qg3,hp.2.2.2];have:pq (below 7) true w=false:=by unfold pq;rw [h5];rcases h2 with h | h<;>rw [h]<;>decide
  rw [this]
  cases qc6 w with
  | true=>simpa using hu.hit
  | false=>simpa using qu11 (pq_pe _) hu.hit
 ·simp only [qv9];rw [qg14 hn _ true];exact hu.last
theorem qr11 {w:Wd} {u:List Wd} (h5:w.1=7∨w.1=1∧(w.2.1= [64]∨w.2.1= [58,58])) (hu:Tail u) (hn:u≠ []):Tail (w :: u):=by
 have h1:qc2 w=false:=by unfold qc2;rcases h5 with h | ⟨h,h2 | h2⟩<;>rw [h]<;>(try rw [h2])<;>rfl
 have h2':qn1 w=false:=by unfold qn1;rcases h5 with h | ⟨h,h2 | h2⟩<;>rw [h]<;>(try rw [h2])<;>rfl
 refine⟨?_,?_,?_⟩
 ·simp only [qa6,h1,h2',AS,if_false];exact hu.bal
 ·have e:nx 0 w=0:=by unfold nx;rw [if_neg (by rw [h1];simp),if_neg (by rw [h2'];simp)]
  simp only [qg3,e];have:pq (below 7) true w=false:=by unfold pq;rcases h5 with h | ⟨h,h2 | h2⟩<;>rw [h]<;>(try rw [h2])<;>rfl
  rw [this]
  cases qc6 w with
  | true=>simpa using hu.hit
  | false=>simpa using qu11 (pq_pe _) hu.hit
 ·simp only [qv9];rw [qg14 hn _ true];exact hu.last
theorem qc7 {w:Wd} {s:List UInt8} (h1:w.1=1) (h2:w.2.1=s) (hs:s= [40]∨s= [91]):qc2 w=true:=by unfold qc2;rw [h1,h2];rcases hs with rfl | rfl<;>rfl
theorem qo4 {w:Wd} {s:List UInt8} (h1:w.1=1) (h2:w.2.1=s) (hs:s= [41]∨s= [93]):qn1 w=true:=by unfold qn1;rw [h1,h2];rcases hs with rfl | rfl<;>rfl
theorem qo6 {r r':List Wd} {t:Int × List UInt8 × Bool} (h:qi3 r=some (t,r')):∃ u,r=u ++ r'∧Tail u∧u≠ []∧(ofW 2 u=true∨ofW 3 u=true∨ofW 4 u=true)∧ ∀ rest,qi3 (u ++ rest)=some (t,rest):=by
 cases r with
 | nil=>cases h
 | cons w r=>
  simp only [qi3]at h;by_cases h2:w.1=2
  ·rw [h2]at h;cases h
   exact⟨[w],rfl,qa4 (by omega) (by omega),by simp,.inl (by simp [ofW,h2]),fun rest=>by simp [qi3,h2]⟩
  by_cases h3:w.1=3
  ·rw [h3]at h;cases h
   exact⟨[w],rfl,qa4 (by omega) (by omega),by simp,.inr (.inl (by simp [ofW,h3])),fun rest=>by simp [qi3,h3]⟩
  have e2:(w.1 == 2)=false:=by simpa using h2
  have e3:(w.1 == 3)=false:=by simpa using h3
  rw [e2,e3]at h;simp only [AS,if_false]at h;by_cases h4:w.1=4
  ·rw [h4]at h;simp only [BEq.rfl,if_true]at h;obtain⟨r1,h5,h6⟩:=qx h;obtain⟨o,rfl,o1,o2⟩:=qg1 h5
   have three:∀ (q:Int × List UInt8 × Bool) (d:List Wd),(takeW 1 [41] r1).map (fun r2=>(q,r2))=some (t,r')→ ∃ c,r1=c :: r'∧c.1=1∧c.2.1= [41]∧t=q:=by
    intro q d hq
    cases hc:takeW 1 [41] r1 with
    | none=>rw [hc]at hq;cases hq
    | some r2=>
     rw [hc]at hq
     cases hq
     obtain⟨c,rfl,c1,c2⟩:=qg1 hc;exact⟨c,rfl,c1,c2,rfl⟩
   have good:∀ c:Wd,c.1=1→c.2.1= [41]→Tail [w,o,c]:=by
    intro c c1 c2;have:=Tail.brackets (o:=o) (c:=c) (u:=[]) (qc7 o1 o2 (.inl rfl)) rfl (qo4 c1 c2 (.inl rfl)) (by rw [c2,o2];rfl);exact(qa4 (w:=w) (by omega) (by omega)).app this
   by_cases k1:w.2.1=qi2
   ·rw [if_pos k1]at h6;obtain⟨c,rfl,c1,c2,rfl⟩:=three _ [] h6;exact⟨[w,o,c],rfl,good c c1 c2,by simp,.inr (.inr (by simp [ofW,h4])),fun rest=>by simp [qi3,h4,takeW,o1,o2,k1,c1,c2]⟩
   rw [if_neg k1]at h6;by_cases k2:w.2.1=qj7
   ·rw [if_pos k2]at h6;obtain⟨c,rfl,c1,c2,rfl⟩:=three _ [] h6;exact⟨[w,o,c],rfl,good c c1 c2,by simp,.inr (.inr (by simp [ofW,h4])),fun rest=>by rw [show([w,o,c]:List Wd) ++ rest=w :: o :: c :: rest by rfl];simp only [qi3];rw [h4,take_of _ o1 o2];simp only [AH];rw [if_neg k1,if_pos k2,take_of _ c1 c2];rfl⟩
   rw [if_neg k2]at h6;by_cases k3:w.2.1=tPI
   ·rw [if_pos k3]at h6
    cases r1 with
    | nil=>cases h6
    | cons v r2=>
     simp only []at h6;by_cases v8:v.1=8
     ·rw [v8]at h6;simp only [BEq.rfl,if_true]at h6
      cases hc:takeW 1 [41] r2 with
      | none=>rw [hc]at h6;cases h6
      | some r3=>
       rw [hc]at h6
       cases h6
       obtain⟨c,rfl,c1,c2⟩:=qg1 hc;refine⟨[w,o,v,c],rfl,?_,by simp,.inr (.inr (by simp [ofW,h4])),fun rest=>by rw [show([w,o,v,c]:List Wd) ++ rest=w :: o :: v :: c :: rest by rfl];simp only [qi3];rw [h4,take_of _ o1 o2];simp only [AH];rw [if_neg k1,if_neg k2,if_pos k3,v8,take_of _ c1 c2];rfl⟩;have:=Tail.brackets (o:=o) (c:=c) (u:=[v]) (qc7 o1 o2 (.inl rfl)) (qa4 (w:=v) (by omega) (by omega)).bal (qo4 c1 c2 (.inl rfl)) (by rw [c2,o2];rfl);exact(qa4 (w:=w) (by omega) (by omega)).app this
     ·have e8:(v.1 == 8)=false:=by simpa using v8
      rw [e8]at h6;simp only [AS,if_false]at h6;obtain⟨c,hc,c1,c2,rfl⟩:=three _ [] h6
      cases hc
      exact⟨[w,o,v],rfl,good v c1 c2,by simp,.inr (.inr (by simp [ofW,h4])),fun rest=>by rw [show([w,o,v]:List Wd) ++ rest=w :: o :: v :: rest by rfl];simp only [qi3];rw [h4,take_of _ o1 o2];simp only [AH];rw [if_neg k1,if_neg k2,if_pos k3,e8,take_of _ c1 c2];rfl⟩
   ·rw [if_neg k3]at h6;obtain⟨c,rfl,c1,c2,rfl⟩:=three _ [] h6;exact⟨[w,o,c],rfl,good c c1 c2,by simp,.inr (.inr (by simp [ofW,h4])),fun rest=>by rw [show([w,o,c]:List Wd) ++ rest=w :: o :: c :: rest by rfl];simp only [qi3];rw [h4,take_of _ o1 o2];simp only [AH];rw [if_neg k1,if_neg k2,if_neg k3,take_of _ c1 c2];rfl⟩
  ·have e4:(w.1 == 4)=false:=by simpa using h4
   rw [e4]at h
   cases h
theorem qc23 {k:Int} {u:List Wd} (h:ofW k u=true):∃ w v,u=w :: v∧w.1=k:=by
 cases u with
 | nil=>cases h
 | cons w v=>exact⟨w,v,rfl,by simpa [ofW]using h⟩
theorem qk20 {r r1 r':List Wd} {a:Int} {t:Int × List UInt8 × Bool} (h:qj8 r=some (a,r1)) (ht:qi3 r1=some (t,r')):∃ u,r=u ++ r'∧Tail u∧u≠ []∧isW 1 [46] u=false∧isW 1 [46,46] u=false ∧
  ∀ rest,∃ r2,qj8 (u ++ rest)=some (a,r2)∧qi3 r2=some (t,rest):=by
 obtain⟨v,rfl,hv,hvn,hvk,hvt⟩:=qo6 ht
 obtain⟨x,v',rfl,hx⟩:∃ x v',v=x :: v'∧(x.1=2∨x.1=3∨x.1=4):=by
  rcases hvk with h | h | h<;>obtain⟨x,v',h1,h2⟩:=qc23 h
  ·exact⟨x,v',h1,.inl h2⟩
  ·exact⟨x,v',h1,.inr (.inl h2)⟩
  ·exact⟨x,v',h1,.inr (.inr h2)⟩
 have x1:x.1≠1:=by omega
 have e7:(x.1 == 7)=false:=by simp;omega
 unfold qj8 at h
 cases hat:takeW 1 [64] r with
 | some r3=>
  rw [hat]at h
  cases h
  obtain⟨w,rfl,w1,w2⟩:=qg1 hat;refine⟨w :: x :: v',rfl,qr11 (.inr ⟨w1,.inl w2⟩) hv hvn,by simp,?_,?_,fun rest=>⟨x :: (v' ++ rest),?_,hvt rest⟩⟩
  ·simp only [isW,w1,w2];rfl
  ·simp only [isW,w1,w2];rfl
  ·unfold qj8;rw [show w :: x :: v' ++ rest=w :: (x :: (v' ++ rest)) by rfl,take_of _ w1 w2]
 | none=>
  rw [hat]at h
  cases r with
  | nil=>cases h
  | cons w r=>
   simp only []at h
   split at h
   ·rename_i h7
    have h7:w.1=7:=by simpa using h7
    split at h
    ·cases h
    ·rename_i hax
     cases hc:takeW 1 [58,58] r with
     | none=>rw [hc]at h;cases h
     | some r2=>
      rw [hc]at h
      cases h
      obtain⟨c,rfl,c1,c2⟩:=qg1 hc;refine⟨w :: c :: x :: v',rfl,qr11 (.inl h7) (qr11 (.inr ⟨c1,.inr c2⟩) hv hvn) (by simp),by simp,?_,?_,fun rest=>⟨x :: (v' ++ rest),?_,hvt rest⟩⟩
      ·exact qy4 h7 (by omega)
      ·exact qy4 h7 (by omega)
      ·unfold qj8;rw [show w :: c :: x :: v' ++ rest=w :: c :: (x :: (v' ++ rest)) by rfl,take_none.2 (qy4 h7 (by omega))];simp only [];rw [if_pos (by simp [h7]),if_neg hax,take_of _ c1 c2];rfl
   ·cases h
    refine⟨x :: v',rfl,hv,by simp,qy4 rfl x1,qy4 rfl x1,fun rest=>⟨x :: (v' ++ rest),?_,hvt rest⟩⟩;unfold qj8;rw [show x :: v' ++ rest=x :: (v' ++ rest) by rfl,take_none.2 (qy4 rfl x1)];simp only [e7,AS,if_false]
end Go.Proofs.YtocdckniokhbbaaGreatDoor.Syn
