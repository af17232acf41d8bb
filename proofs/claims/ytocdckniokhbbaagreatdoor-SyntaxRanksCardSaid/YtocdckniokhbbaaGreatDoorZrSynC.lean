import Derived.Test.YtocdckniokhbbaaGreatDoorZrZz
import Derived.Test.YtocdckniokhbbaaGreatDoorZrBrkA
set_option linter.unusedVariables false
set_option linter.unusedSimpArgs false
open List renaming cons_append→AJ,length_cons→AE,nil_append→AN,contains_cons→Bv,not_mem_nil→Bm
open Bool renaming and_eq_true→AK,false_eq_true→AR
open Option renaming bind_some→Ay
namespace Go.Proofs.YtocdckniokhbbaaGreatDoor.Syn
open LexA
mutual
inductive Ex where
 | mk (op:Int) (s:List UInt8) (v t:Int) (abs:Bool) (kids:List Ex) (steps:List St)
inductive St where
 | mk (axis kind:Int) (name:List UInt8) (has:Bool) (preds:List Ex)
end
def ex0:Ex:= .mk 0 [] 0 0 false [] []
def mkW (op:Int) (l:List Ex):Ex:= .mk op [] 0 0 false l []
def anyT:St:= .mk 11 3 [] false []
def isW (k:Int) (s:List UInt8):List Wd→Bool
 | w :: _=>w.1 == k && w.2.1 == s
 | []=>false
def ofW (k:Int):List Wd→Bool
 | w :: _=>w.1 == k
 | []=>false
def takeW (k:Int) (s:List UInt8):List Wd→Option (List Wd)
 | w :: r=>if w.1 == k && w.2.1 == s then some r else none
 | []=>none
def qy1 (n:Nat):List (List UInt8 × Int):=match n with
 | 0=>[([111,114],1)]
 | 1=>[([97,110,100],2)]
 | 2=>[([61],3),([33,61],4)]
 | 3=>[([60],5),([62],7),([60,61],6),([62,61],8)]
 | 4=>[([43],9),([45],10)]
 | 5=>[([42],11),([100,105,118],12),([109,111,100],13)]
 | _=>[]
def qv15 (k:Nat):List Wd→Option (Int × List Wd)
 | w :: r=>if w.1 == 5 then((qy1 k).find? (fun o=>o.1 == w.2.1)).map fun o=>(o.2,r)else none
 | []=>none
def qa2 (r:List Wd):Bool:=ofW 10 r || ofW 8 r || ofW 9 r || ofW 6 r || isW 1 [40] r
def qi4 (r:List Wd):Bool:=ofW 7 r || ofW 2 r || ofW 3 r || ofW 4 r || isW 1 [46] r || isW 1 [46,46] r || isW 1 [64] r
def axesL:List (List UInt8):=[[99,104,105,108,100],[100,101,115,99,101,110,100,97,110,116],[112,97,114,101,110,116],[97,110,99,101,115,116,111,114],[102,111,108,108,111,119,105,110,103,45,115,105,98,108,105,110,103],[112,114,101,99,101,100,105,110,103,45,115,105,98,108,105,110,103],[102,111,108,108,111,119,105,110,103],[112,114,101,99,101,100,105,110,103],[97,116,116,114,105,98,117,116,101],[115,101,108,102],[100,101,115,99,101,110,100,97,110,116,45,111,114,45,115,101,108,102],[97,110,99,101,115,116,111,114,45,111,114,45,115,101,108,102]]
def ql1 (s:List UInt8):Int:=if axesL.contains s then(axesL.idxOf s:Int)+1 else 0
def qh8 (r:List Wd):Option (Int × List Wd):=
 match takeW 1 [64] r with
 | some r1=>some (9,r1)
 | none=>match r with
  | []=>some (1,[])
  | w :: r1=>if w.1 == 7 then(if ql1 w.2.1=0 then none else(takeW 1 [58,58] r1).map fun r2=>(ql1 w.2.1,r2))else some (1,w :: r1)
def qt2:List UInt8:=[99,111,109,109,101,110,116]
def qk9:List UInt8:=[116,101,120,116]
def tPI:List UInt8:=[112,114,111,99,101,115,115,105,110,103,45,105,110,115,116,114,117,99,116,105,111,110]
def qb3:List Wd→Option ((Int × List UInt8 × Bool) × List Wd)
 | []=>none
 | w :: r=>if w.1 == 2 then some ((1,w.2.1,false),r)else if w.1 == 3 then some ((2,[],false),r)else if w.1 == 4 then
   (takeW 1 [40] r).bind fun r1=>
    if w.2.1=qt2 then(takeW 1 [41] r1).map fun r2=>((5,[],false),r2)
    else if w.2.1=qk9 then(takeW 1 [41] r1).map fun r2=>((4,[],false),r2)
    else if w.2.1=tPI then(match r1 with
     | []=>none
     | v :: r2=>if v.1 == 8 then(takeW 1 [41] r2).map fun r3=>((6,v.2.1,true),r3)else(takeW 1 [41] r1).map fun r3=>((6,[],false),r3))
    else(takeW 1 [41] r1).map fun r2=>((3,[],false),r2)
  else none
mutual
def ql2:Nat→Nat→List Wd→Option (Ex × List Wd)
 | 0,_,_=>none
 | n+1,k,r=>if 6≤k then qe3 n r else(ql2 n (k+1) r).bind fun x=>qy3 n k x.1 x.2
def qy3:Nat→Nat→Ex→List Wd→Option (Ex × List Wd)
 | 0,_,_,_=>none
 | n+1,k,e,r=>match qv15 k r with
  | none=>some (e,r)
  | some o=>(ql2 n (k+1) o.2).bind fun x=>qy3 n k (mkW o.1 [e,x.1]) x.2
def qe3:Nat→List Wd→Option (Ex × List Wd)
 | 0,_=>none
 | n+1,r=>match takeW 5 [45] r with
  | some r1=>(qe3 n r1).bind fun x=>some (mkW 15 [x.1],x.2)
  | none=>qe4 n r
def qe4:Nat→List Wd→Option (Ex × List Wd)
 | 0,_=>none
 | n+1,r=>(qm4 n r).bind fun x=>qq3 n x.1 x.2
def qq3:Nat→Ex→List Wd→Option (Ex × List Wd)
 | 0,_,_=>none
 | n+1,e,r=>match takeW 5 [124] r with
  | some r1=>(qm4 n r1).bind fun x=>qq3 n (mkW 14 [e,x.1]) x.2
  | none=>some (e,r)
def qm4:Nat→List Wd→Option (Ex × List Wd)
 | 0,_=>none
 | n+1,r=>if qa2 r then(qm3 n r).bind fun x=>if !isW 5 [47] x.2 && !isW 5 [47,47] x.2 then some x else(qd2 n [] x.2).bind fun y=>some (.mk 16 [] 0 0 false [x.1] y.1,y.2)
  else qk18 n r
def qd2:Nat→List St→List Wd→Option (List St × List Wd)
 | 0,_,_=>none
 | n+1,acc,r=>match takeW 5 [47] r with
  | some r1=>(qc2 n r1).bind fun x=>qd2 n (acc ++ [x.1]) x.2
  | none=>match takeW 5 [47,47] r with
   | some r1=>(qc2 n r1).bind fun x=>qd2 n (acc ++ [anyT,x.1]) x.2
   | none=>some (acc,r)
def qk18:Nat→List Wd→Option (Ex × List Wd)
 | 0,_=>none
 | n+1,r=>if isW 5 [47,47] r then(qd2 n [] r).bind fun y=>some (.mk 16 [] 0 0 true [] y.1,y.2)
  else match takeW 5 [47] r with
   | some r1=>if !qi4 r1 then some (.mk 16 [] 0 0 true [] [],r1)else(qc2 n r1).bind fun x=>(qd2 n [x.1] x.2).bind fun y=>some (.mk 16 [] 0 0 true [] y.1,y.2)
   | none=>(qc2 n r).bind fun x=>(qd2 n [x.1] x.2).bind fun y=>some (.mk 16 [] 0 0 false [] y.1,y.2)
def qm3:Nat→List Wd→Option (Ex × List Wd)
 | 0,_=>none
 | n+1,r=>(qu3 n r).bind fun x=>(qm1 n [] x.2).bind fun y=>some (if y.1.isEmpty then x.1 else mkW 17 (x.1 :: y.1),y.2)
def qm1:Nat→List Ex→List Wd→Option (List Ex × List Wd)
 | 0,_,_=>none
 | n+1,acc,r=>match takeW 1 [91] r with
  | none=>some (acc,r)
  | some r1=>(ql2 n 0 r1).bind fun x=>(takeW 1 [93] x.2).bind fun r3=>qm1 n (acc ++ [x.1]) r3
def qu3:Nat→List Wd→Option (Ex × List Wd)
 | 0,_=>none
 | _+1,[]=>none
 | n+1,w :: r=>if w.1 == 10 then some (.mk 21 w.2.1 0 0 false [] [],r)else if w.1 == 8 then some (.mk 18 w.2.1 0 0 false [] [],r)
  else if w.1 == 9 then some (.mk 19 [] w.2.2.1 w.2.2.2 false [] [],r)else if w.1 == 6 then qw8 n w.2.1 r
  else(ql2 n 0 r).bind fun x=>(takeW 1 [41] x.2).bind fun r3=>some (x.1,r3)
def qw8:Nat→List UInt8→List Wd→Option (Ex × List Wd)
 | 0,_,_=>none
 | n+1,s,r=>(takeW 1 [40] r).bind fun r1=>match takeW 1 [41] r1 with
  | some r2=>some (.mk 20 s 0 0 false [] [],r2)
  | none=>(ql2 n 0 r1).bind fun x=>(qk5 n [x.1] x.2).bind fun y=>(takeW 1 [41] y.2).bind fun r4=>some (.mk 20 s 0 0 false y.1 [],r4)
def qk5:Nat→List Ex→List Wd→Option (List Ex × List Wd)
 | 0,_,_=>none
 | n+1,acc,r=>match takeW 1 [44] r with
  | none=>some (acc,r)
  | some r1=>(ql2 n 0 r1).bind fun x=>qk5 n (acc ++ [x.1]) x.2
def qc2:Nat→List Wd→Option (St × List Wd)
 | 0,_=>none
 | n+1,r=>match takeW 1 [46] r with
  | some r1=>some (.mk 10 3 [] false [],r1)
  | none=>match takeW 1 [46,46] r with
   | some r1=>some (.mk 3 3 [] false [],r1)
   | none=>(qh8 r).bind fun h=>(qb3 h.2).bind fun t=>(qm1 n [] t.2).bind fun y=>some (.mk h.1 t.1.1 t.1.2.1 t.1.2.2 y.1,y.2)
end
def qw1 (w:Wd):Bool:=w.1 == 1 && (w.2.1 == [40] || w.2.1 == [91])
def qf1 (w:Wd):Bool:=w.1 == 1 && (w.2.1 == [41] || w.2.1 == [93])
def qq18 (w:Wd):Bool:= !(w.1 == 5) && !(w.1 == 1 && (w.2.1 == [64] || w.2.1 == [58,58] || w.2.1 == [40] || w.2.1 == [91] || w.2.1 == [44]))
def ql6 (w:Wd):Bool:=qq18 w || (w.1 == 5 && w.2.1 == [47])
def nx (n:Int) (w:Wd):Int:=if qw1 w then n+1 else if qf1 w then n - 1 else n
def qx5 (ops:List (List UInt8)) (pe:Bool) (n:Int) (k:Nat) (at_:Option Nat):List Wd→Option Nat
 | []=>at_
 | w :: l=>qx5 ops (ql6 w) (nx n w) (k+1) (if nx n w=0∧w.1=5∧pe=true∧ops.contains w.2.1=true then some k else at_) l
def qi13 (o:List UInt8):List UInt8:=if o= [91]then [93]else [41]
def qp1 (st:List (List UInt8)) (k:Nat):List Wd→Option Nat
 | []=>none
 | w :: l=>if qw1 w then qp1 (w.2.1 :: st) (k+1) l else if qf1 w then(match st with
   | []=>none
   | o :: os=>if w.2.1≠qi13 o then none else if os.isEmpty then some k else qp1 os (k+1) l)
  else qp1 st (k+1) l
def qc4 (n:Int) (cur:List Wd):List Wd→List (List Wd)
 | []=>[cur]
 | w :: l=>if nx n w=0∧(w.1 == 1 && w.2.1 == [44])=true then cur :: qc4 (nx n w) [] l else qc4 (nx n w) (cur ++ [w]) l
def qz4 (rank:Nat):List (List UInt8):=(qy1 rank).map (·.1)
def qw25 (s:List UInt8):Int:=match (List.range 6).findSome? (fun k=>((qy1 k).find? (fun o=>o.1 == s)).map (·.2))with | some n=>n | none=>0
mutual
def rOr:Nat→List Wd→Nat→Option Ex
 | 0,_,_=>none
 | n+1,l,rank=>if 6≤rank then qw4 n l else match qx5 (qz4 rank) false 0 0 none l with
  | none=>rOr n l (rank+1)
  | some k=>(rOr n (l.take k) rank).bind fun a=>(rOr n (l.drop (k+1)) (rank+1)).bind fun b=>some (mkW (qw25 (l[k]?.getD (0,[],0,0)).2.1) [a,b])
def qw4:Nat→List Wd→Option Ex
 | 0,_=>none
 | n+1,l=>match takeW 5 [45] l with
  | some l1=>(qw4 n l1).bind fun a=>some (mkW 15 [a])
  | none=>qx3 n l
def qx3:Nat→List Wd→Option Ex
 | 0,_=>none
 | n+1,l=>match qx5 [[124]] false 0 0 none l with
  | none=>qw10 n l
  | some k=>(qx3 n (l.take k)).bind fun a=>(qw10 n (l.drop (k+1))).bind fun b=>some (mkW 14 [a,b])
def qw10:Nat→List Wd→Option Ex
 | 0,_=>none
 | n+1,l=>if l.isEmpty then none else if qa2 l then(qj5 n l).bind fun x=>(qf5 n x.2).bind fun y=>
   if y.2.isEmpty then some (if y.1.isEmpty then x.1 else mkW 17 (x.1 :: y.1))else(qn2 n y.2).bind fun s=>some (.mk 16 [] 0 0 false [if y.1.isEmpty then x.1 else mkW 17 (x.1 :: y.1)] s)
  else qe23 n l
def qj5:Nat→List Wd→Option (Ex × List Wd)
 | 0,_=>none
 | _+1,[]=>none
 | n+1,w :: r=>if w.1 == 10 then some (.mk 21 w.2.1 0 0 false [] [],r)else if w.1 == 8 then some (.mk 18 w.2.1 0 0 false [] [],r)
  else if w.1 == 9 then some (.mk 19 [] w.2.2.1 w.2.2.2 false [] [],r)
  else if w.1 == 6 then(if isW 1 [40] r then match qp1 [] 0 r with
    | none=>none
    | some tt=>if tt=1 then some (.mk 20 w.2.1 0 0 false [] [],r.drop 2)else(qk12 n (qc4 0 [] ((r.take tt).drop 1))).bind fun ks=>some (.mk 20 w.2.1 0 0 false ks [],r.drop (tt+1))
   else none)
  else if isW 1 [40] (w :: r)then match qp1 [] 0 (w :: r)with
    | none=>none
    | some tt=>(rOr n (((w :: r).take tt).drop 1) 0).bind fun e=>some (e,(w :: r).drop (tt+1))
   else none
def qk12:Nat→List (List Wd)→Option (List Ex)
 | 0,_=>none
 | _+1,[]=>some []
 | n+1,p :: ps=>(rOr n p 0).bind fun e=>(qk12 n ps).bind fun es=>some (e :: es)
def qf5:Nat→List Wd→Option (List Ex × List Wd)
 | 0,_=>none
 | n+1,l=>if isW 1 [91] l then match qp1 [] 0 l with
    | none=>none
    | some tt=>(rOr n ((l.take tt).drop 1) 0).bind fun e=>(qf5 n (l.drop (tt+1))).bind fun y=>some (e :: y.1,y.2)
   else some ([],l)
def qe23:Nat→List Wd→Option Ex
 | 0,_=>none
 | n+1,l=>if isW 5 [47] l || isW 5 [47,47] l then(if l.length=1 then(if isW 5 [47] l then some (.mk 16 [] 0 0 true [] [])else none)else(qn2 n l).bind fun s=>some (.mk 16 [] 0 0 true [] s))
  else(qn2 n ((5,[47],0,0) :: l)).bind fun s=>some (.mk 16 [] 0 0 false [] s)
def qn2:Nat→List Wd→Option (List St)
 | 0,_=>none
 | n+1,l=>if l.isEmpty then some []else if isW 5 [47] l then(qw7 n l.tail).bind fun x=>(qn2 n x.2).bind fun ss=>some (x.1 :: ss)
  else if isW 5 [47,47] l then(qw7 n l.tail).bind fun x=>(qn2 n x.2).bind fun ss=>some (anyT :: x.1 :: ss)
  else none
def qw7:Nat→List Wd→Option (St × List Wd)
 | 0,_=>none
 | n+1,r=>match takeW 1 [46] r with
  | some r1=>some (.mk 10 3 [] false [],r1)
  | none=>match takeW 1 [46,46] r with
   | some r1=>some (.mk 3 3 [] false [],r1)
   | none=>(qh8 r).bind fun h=>(qb3 h.2).bind fun t=>(qf5 n t.2).bind fun y=>some (.mk h.1 t.1.1 t.1.2.1 t.1.2.2 y.1,y.2)
end
def qx8 (n:Nat):List Wd→Bool
 | []=>false
 | w :: l=>if 12<(if qw1 w then n+1 else if qf1 w then n - 1 else n)then true else qx8 (if qw1 w then n+1 else if qf1 w then n - 1 else n) l
def qk2 (l:List Wd):Option Ex:=match ql2 (80*l.length+60) 0 l with | some (e,[])=>some e | _=>none
end Go.Proofs.YtocdckniokhbbaaGreatDoor.Syn
namespace Go.Proofs.YtocdckniokhbbaaGreatDoor.Syn
open LexA
def qf3 (p:Bool→Wd→Bool) (pe:Bool) (n:Int):List Wd→Bool
 | []=>true
 | w :: l=> !(decide (nx n w=0) && p pe w) && qf3 p (ql6 w) (nx n w) l
def nOf (n:Int):List Wd→Int
 | []=>n
 | w :: l=>nOf (nx n w) l
def qn10 (pe:Bool):List Wd→Bool
 | []=>pe
 | w :: l=>qn10 (ql6 w) l
theorem qf7 (p:Bool→Wd→Bool):∀ (u v:List Wd) (pe:Bool) (n:Int),qf3 p pe n (u ++ v)=(qf3 p pe n u && qf3 p (qn10 pe u) (nOf n u) v)
 | [],v,pe,n=>by simp [qf3,qn10,nOf]
 | w :: u,v,pe,n=>by simp only [AJ,qf3,qn10,nOf,qf7 p u v,Bool.and_assoc]
theorem qz8:∀ (u v:List Wd) (pe:Bool),qn10 pe (u ++ v)=qn10 (qn10 pe u) v
 | [],v,pe=>rfl
 | w :: u,v,pe=>by simp only [AJ,qn10,qz8 u v]
theorem qs12 {p:Bool→Wd→Bool} (hp:∀ w,p false w=true→p true w=true) {n:Int}:∀ {u:List Wd},qf3 p true n u=true→qf3 p false n u=true
 | [],_=>rfl
 | w :: u,h=>by
  simp only [qf3,AK,Bool.not_eq_true']at h ⊢;refine⟨?_,h.2⟩
  cases hq:p false w with
  | false=>simp
  | true=>rw [hp w hq]at h;exact h.1
theorem qq11 {p q:Bool→Wd→Bool} (hp:∀ b w,q b w=true→p b w=true):∀ {u:List Wd} {pe:Bool} {n:Int},qf3 p pe n u=true→qf3 q pe n u=true
 | [],_,_,_=>rfl
 | w :: u,pe,n,h=>by
  simp only [qf3,AK,Bool.not_eq_true']at h ⊢;refine⟨?_,qq11 hp h.2⟩
  cases hq:q pe w with
  | false=>simp
  | true=>rw [hp pe w hq]at h;exact h.1
def qk6:List (List UInt8)→List Wd→Option (List (List UInt8))
 | s,[]=>some s
 | s,w :: l=>if qw1 w then qk6 (w.2.1 :: s) l else if qf1 w then(match s with | []=>none | o :: os=>if w.2.1=qi13 o then qk6 os l else none)else qk6 s l
theorem qj4:∀ (u v:List Wd) (s:List (List UInt8)),qk6 s (u ++ v)=(qk6 s u).bind fun t=>qk6 t v
 | [],v,s=>rfl
 | w :: u,v,s=>by
  simp only [AJ,qk6]
  split
  ·exact qj4 u v _
  ·split
   ·cases s with
    | nil=>rfl
    | cons o os=>
     simp only []
     split
     ·exact qj4 u v _
     ·rfl
   ·exact qj4 u v _
theorem qk8 {w:Wd} (h:qf1 w=true):qw1 w=false:=by
 unfold qf1 at h;unfold qw1;simp only [AK,Bool.or_eq_true,beq_iff_eq]at h
 rcases h with ⟨h1,h2 | h2⟩<;>rw [h2]<;>simp<;>(right;constructor<;>decide)
theorem qc6 (st:List (List UInt8)):∀ {u:List Wd} {s s':List (List UInt8)},qk6 s u=some s'→qk6 (s ++ st) u=some (s' ++ st)
 | [],s,s',h=>by cases h;rfl
 | w :: u,s,s',h=>by
  simp only [qk6]at h ⊢
  split at h
  ·rw [if_pos za9];exact qc6 st (s:=w.2.1 :: s) h
  ·rw [if_neg za9]
   split at h
   ·rw [if_pos za9]
    cases s with
    | nil=>cases h
    | cons o os=>
     simp only [AJ]at h ⊢
     split at h
     ·rw [if_pos za9];exact qc6 st h
     ·cases h
   ·rw [if_neg za9];exact qc6 st h
theorem qt12:∀ {u:List Wd} {s s':List (List UInt8)} {n:Int},qk6 s u=some s'→nOf n u=n+s'.length - s.length
 | [],s,s',n,h=>by cases h;simp [nOf];try omega
 | w :: u,s,s',n,h=>by
  simp only [qk6]at h;simp only [nOf,nx]
  split at h
  ·rw [if_pos za9,qt12 h];simp;try omega
  ·rw [if_neg za9]
   split at h
   ·rw [if_pos za9]
    cases s with
    | nil=>cases h
    | cons o os=>
     simp only []at h
     split at h
     ·rw [qt12 h];simp;try omega
     ·cases h
   ·rw [if_neg za9,qt12 h]
theorem qd8 {u:List Wd} {n:Int} (h:qk6 [] u=some []):nOf n u=n:=by rw [qt12 h];simp
theorem qr11 (p:Bool→Wd→Bool) (b:Int) (hb:1≤b):∀ {u:List Wd} {s s':List (List UInt8)} {pe:Bool},qk6 s u=some s'→qf3 p pe (b+s.length) u=true
 | [],s,s',pe,h=>rfl
 | w :: u,s,s',pe,h=>by
  obtain⟨t,h1,h2⟩:∃ t:List (List UInt8),nx (b+s.length) w=b+t.length∧qk6 t u=some s':=by
   simp only [qk6]at h;unfold nx
   split at h
   ·rw [if_pos za9];exact⟨w.2.1 :: s,za6,h⟩
   ·rw [if_neg za9]
    split at h
    ·rw [if_pos za9]
     cases s with
     | nil=>cases h
     | cons o os=>
      simp only []at h
      split at h
      ·exact⟨os,za6,h⟩
      ·cases h
    ·rw [if_neg za9];exact⟨s,rfl,h⟩
  simp only [qf3];rw [h1,qr11 p b hb h2,decide_eq_false (by omega)];rfl
theorem qx4 (st:List (List UInt8)) (hst:st≠ []) (l:List Wd):∀ {u:List Wd} {s s':List (List UInt8)} {k:Nat},qk6 s u=some s'→qp1 (s ++ st) k (u ++ l)=qp1 (s' ++ st) (k+u.length) l
 | [],s,s',k,h=>by cases h;rfl
 | w :: u,s,s',k,h=>by
  simp only [qk6]at h;simp only [AJ,qp1,AE];rw [show k+(u.length+1)=(k+1)+u.length by omega]
  split at h
  ·rw [if_pos za9];exact qx4 st hst l (s:=w.2.1 :: s) h
  ·rw [if_neg za9]
   split at h
   ·rw [if_pos za9]
    cases s with
    | nil=>cases h
    | cons o os=>
     simp only [AJ]at h ⊢
     split at h
     ·rename_i hw
      rw [if_neg (by rw [hw];simp),if_neg (by simp;intro _;exact hst)];exact qx4 st hst l h
     ·cases h
   ·rw [if_neg za9];exact qx4 st hst l h
theorem qq6 {o c:Wd} {u l:List Wd} {k:Nat} (ho:qw1 o=true) (hu:qk6 [] u=some []) (hc:qf1 c=true) (hw:c.2.1=qi13 o.2.1):qp1 [] k (o :: (u ++ c :: l))=some (k+1+u.length):=by
 simp only [qp1];rw [if_pos ho];have:=qx4 [o.2.1] (by simp) (c :: l) (k:=k+1) hu;rw [AN]at this;rw [this];simp only [qp1,AN];rw [if_neg (by rw [qk8 hc];simp),if_pos hc,if_neg (by rw [hw];simp)];rfl
theorem qy4 (b:List UInt8):∀ {l:List Wd} {s:List (List UInt8)} {k tt:Nat},qp1 (s ++ [b]) k l=some tt→ ∃ inner w l',l=inner ++ w :: l'∧tt=k+inner.length∧w.2.1=qi13 b∧qf1 w=true
 | [],s,k,tt,h=>by cases h
 | w :: l,s,k,tt,h=>by
  simp only [qp1]at h
  split at h
  ·obtain⟨i,v,l',rfl,h2,h3⟩:=qy4 b (s:=w.2.1 :: s) h;exact⟨w :: i,v,l',rfl,za6,h3⟩
  ·split at h
   ·rename_i hc
    cases s with
    | nil=>
     simp only [AN]at h
     split at h
     ·cases h
     ·rename_i hw
      simp at h;exact⟨[],w,l,rfl,za6,by simpa using hw,hc⟩
    | cons o os=>
     simp only [AJ]at h
     split at h
     ·cases h
     ·rw [if_neg (by simp)]at h;obtain⟨i,v,l',rfl,h2,h3⟩:=qy4 b h;exact⟨w :: i,v,l',rfl,za6,h3⟩
   ·obtain⟨i,v,l',rfl,h2,h3⟩:=qy4 b h;exact⟨w :: i,v,l',rfl,za6,h3⟩
theorem qh14 {o:Wd} {l:List Wd} {tt:Nat} (ho:qw1 o=true) (h:qp1 [] 0 (o :: l)=some tt):∃ inner c l',l=inner ++ c :: l'∧tt=1+inner.length∧c.2.1=qi13 o.2.1∧qf1 c=true:=by
 simp only [qp1]at h;rw [if_pos ho]at h;exact qy4 o.2.1 (s:=[]) h
def pq (ops:List (List UInt8)) (pe:Bool) (w:Wd):Bool:=(w.1 == 5 && pe && ops.contains w.2.1) || (w.1 == 1 && w.2.1 == [44])
theorem pq_pe (ops:List (List UInt8)) (w:Wd) (h:pq ops false w=true):pq ops true w=true:=by
 unfold pq at *;simp only [Bool.and_false,Bool.false_and,Bool.false_or]at h;rw [h];simp
theorem qh17 {ops ops':List (List UInt8)} (hs:∀ x,ops'.contains x=true→ops.contains x=true) (l:List Wd):∀ {u:List Wd} {pe:Bool} {n:Int} {k:Nat} {a:Option Nat},qf3 (pq ops) pe n u=true →
  qx5 ops' pe n k a (u ++ l)=qx5 ops' (qn10 pe u) (nOf n u) (k+u.length) a l
 | [],pe,n,k,a,h=>rfl
 | w :: u,pe,n,k,a,h=>by
  simp only [qf3,AK,Bool.not_eq_true']at h;simp only [AJ,qx5,qn10,nOf,AE];rw [show k+(u.length+1)=(k+1)+u.length by omega,← qh17 hs l h.2,if_neg];intro ⟨h1,h2,h3,h4⟩;have h5:=h.1;unfold pq at h5;rw [h1,h2,h3,hs _ h4]at h5;simp at h5
theorem qm9 {ops:List (List UInt8)} (l:List Wd):∀ {u:List Wd} {pe:Bool} {n:Int} {cur:List Wd},qf3 (pq ops) pe n u=true→qc4 n cur (u ++ l)=qc4 (nOf n u) (cur ++ u) l
 | [],pe,n,cur,h=>by simp [nOf]
 | w :: u,pe,n,cur,h=>by
  simp only [qf3,AK,Bool.not_eq_true']at h;simp only [AJ,qc4,nOf];rw [if_neg,qm9 l h.2]
  ·simp
  ·intro ⟨h1,h2⟩;have h5:=h.1;unfold pq at h5;rw [h1,h2]at h5;simp at h5
def below (j:Nat):List (List UInt8):=match j with
 | 0=>[]
 | 1=>qz4 0
 | 2=>qz4 0 ++ qz4 1
 | 3=>qz4 0 ++ qz4 1 ++ qz4 2
 | 4=>qz4 0 ++ qz4 1 ++ qz4 2 ++ qz4 3
 | 5=>qz4 0 ++ qz4 1 ++ qz4 2 ++ qz4 3 ++ qz4 4
 | 6=>qz4 0 ++ qz4 1 ++ qz4 2 ++ qz4 3 ++ qz4 4 ++ qz4 5
 | _=>qz4 0 ++ qz4 1 ++ qz4 2 ++ qz4 3 ++ qz4 4 ++ qz4 5 ++ [[124]]
theorem qi6 {a b:List (List UInt8)} {x:List UInt8} (h:a.contains x=true):(a ++ b).contains x=true:=by
 rw [List.contains_append,h];rfl
theorem qh4 {a b:List (List UInt8)} {x:List UInt8} (h:b.contains x=true):(a ++ b).contains x=true:=by
 rw [List.contains_append,h,Bool.or_true]
theorem qb19 (k:Nat) (x:List UInt8) (h:(below k).contains x=true):(below (k+1)).contains x=true:=by
 match k with
 | 0=>simp [below]at h
 | 1=>exact qi6 h
 | 2=>exact qi6 h
 | 3=>exact qi6 h
 | 4=>exact qi6 h
 | 5=>exact qi6 h
 | 6=>exact qi6 h
 | k+7=>exact h
theorem ql17 {j k:Nat} (hjk:j≤k) (x:List UInt8) (h:(below j).contains x=true):(below k).contains x=true:=by
 induction hjk with
 | refl=>exact h
 | step _ ih=>exact qb19 _ _ ih
theorem qv7 (k:Nat) (hk:k<6) (x:List UInt8) (h:(qz4 k).contains x=true):(below (k+1)).contains x=true:=by
 match k,hk with
 | 0,_=>exact h
 | 1,_=>exact qh4 h
 | 2,_=>exact qh4 h
 | 3,_=>exact qh4 h
 | 4,_=>exact qh4 h
 | 5,_=>exact qh4 h
theorem qd14 (k:Nat) (hk:k<6) (x:List UInt8) (h:(qz4 k).contains x=true):(below k).contains x=false:=by
 match k,hk with
 | 0,_=>rfl
 | 1,_=>simp only [qz4,qy1,List.map_cons,List.map_nil,Bv,List.contains_nil,Bool.or_false,beq_iff_eq]at h;subst h;decide
 | 2,_=>simp only [qz4,qy1,List.map_cons,List.map_nil,Bv,List.contains_nil,Bool.or_false,Bool.or_eq_true,beq_iff_eq]at h;rcases h with rfl | rfl<;>decide
 | 3,_=>simp only [qz4,qy1,List.map_cons,List.map_nil,Bv,List.contains_nil,Bool.or_false,Bool.or_eq_true,beq_iff_eq]at h;rcases h with rfl | rfl | rfl | rfl<;>decide
 | 4,_=>simp only [qz4,qy1,List.map_cons,List.map_nil,Bv,List.contains_nil,Bool.or_false,Bool.or_eq_true,beq_iff_eq]at h;rcases h with rfl | rfl<;>decide
 | 5,_=>simp only [qz4,qy1,List.map_cons,List.map_nil,Bv,List.contains_nil,Bool.or_false,Bool.or_eq_true,beq_iff_eq]at h;rcases h with rfl | rfl | rfl<;>decide
structure Good (j:Nat) (u:List Wd):Prop where
 ne:u≠ []
 bal:qk6 [] u=some []
 hit:qf3 (pq (below j)) false 0 u=true
 last:qn10 false u=true
structure Tail (u:List Wd):Prop where
 bal:qk6 [] u=some []
 hit:qf3 (pq (below 7)) true 0 u=true
 last:qn10 true u=true
theorem qt15:∀ {u:List Wd} (h:u≠ []) (a b:Bool),qn10 a u=qn10 b u
 | w :: u,_,a,b=>rfl
theorem pq_le {j k:Nat} (h:j≤k) (b:Bool) (w:Wd) (hq:pq (below j) b w=true):pq (below k) b w=true:=by
 unfold pq at *;simp only [Bool.or_eq_true,AK]at *
 rcases hq with ⟨⟨h1,h2⟩,h3⟩ | h1
 ·exact .inl ⟨⟨h1,h2⟩,ql17 h _ h3⟩
 ·exact .inr h1
theorem Good.le {j k:Nat} {u:List Wd} (h:Good k u) (hjk:j≤k):Good j u:=⟨h.ne,h.bal,qq11 (pq_le hjk) h.hit,h.last⟩
theorem Tail.good {u:List Wd} (h:Tail u) (hn:u≠ []):Good 7 u:=⟨hn,h.bal,qs12 (pq_pe _) h.hit,(qt15 hn _ _).trans h.last⟩
theorem Tail.nil:Tail []:=⟨rfl,rfl,rfl⟩
theorem Tail.app {u v:List Wd} (h:Tail u) (k:Tail v):Tail (u ++ v):=
 ⟨by rw [qj4,h.bal];exact k.bal,by rw [qf7,h.hit,h.last,qd8 h.bal];exact k.hit,by rw [qz8,h.last];exact k.last⟩
theorem Tail.one {w:Wd} (h1:qw1 w=false) (h2:qf1 w=false) (h3:pq (below 7) true w=false) (h4:ql6 w=true):Tail [w]:=
 ⟨by simp [qk6,h1,h2],by simp [qf3,h3],h4⟩
theorem Tail.brackets {o c:Wd} {u:List Wd} (ho:qw1 o=true) (hu:qk6 [] u=some []) (hc:qf1 c=true) (hw:c.2.1=qi13 o.2.1):Tail (o :: (u ++ [c])):=by
 have hco:=qk8 hc;have hc1:c.1=1:=by unfold qf1 at hc;simp at hc;exact hc.1
 have hc2:c.2.1= [41]∨c.2.1= [93]:=by unfold qf1 at hc;simp at hc;exact hc.2
 refine⟨?_,?_,?_⟩
 ·simp only [qk6];rw [if_pos ho,qj4];have:=qc6 [o.2.1] hu;rw [AN]at this;rw [this];simp only [Ay,qk6,AN];rw [if_neg (by rw [hco];simp),if_pos hc,if_pos hw]
 ·simp only [qf3];have e:nx 0 o=1:=by unfold nx;rw [if_pos ho];rfl
  rw [e,qf7,qd8 hu];have:qf3 (pq (below 7)) (ql6 o) 1 u=true:=qr11 (pq (below 7)) 1 (by omega) (pe:=ql6 o) hu;rw [this];simp only [qf3,Bool.and_true,Bool.true_and];have:pq (below 7) (qn10 (ql6 o) u) c=false:=by unfold pq;rw [hc1];rcases hc2 with h | h<;>rw [h]<;>simp
  rw [this];simp
 ·simp only [qn10,qz8];show ql6 c=true;unfold ql6 qq18;rw [hc1]
  rcases hc2 with h | h<;>rw [h]<;>decide
end Go.Proofs.YtocdckniokhbbaaGreatDoor.Syn
namespace Go.Proofs.YtocdckniokhbbaaGreatDoor.Syn
open LexA
theorem ql {α β:Type} {o:Option α} {f:α→Option β} {b:β} (h:o.bind f=some b):∃ a,o=some a∧f a=some b:=by
 cases o with
 | none=>cases h
 | some a=>exact⟨a,rfl,h⟩
theorem qv {k:Int} {s:List UInt8} {r r1:List Wd} (h:takeW k s r=some r1):∃ w,r=w :: r1∧w.1=k∧w.2.1=s:=by
 cases r with
 | nil=>cases h
 | cons w r=>
  simp only [takeW]at h
  split at h
  ·rename_i hc
   cases h
   simp only [AK,beq_iff_eq]at hc;exact⟨w,rfl,hc.1,hc.2⟩
  ·cases h
theorem take_of {k:Int} {s:List UInt8} {w:Wd} (r:List Wd) (h1:w.1=k) (h2:w.2.1=s):takeW k s (w :: r)=some r:=by
 simp only [takeW,h1,h2];simp
theorem qq2 {k:Int} {s:List UInt8} {r:List Wd} (h:isW k s r=true):∃ w r1,r=w :: r1∧w.1=k∧w.2.1=s:=by
 cases r with
 | nil=>cases h
 | cons w r=>
  simp only [isW,AK,beq_iff_eq]at h;exact⟨w,r,rfl,h.1,h.2⟩
theorem qz9 {k:Int} {s:List UInt8} {w:Wd} (r:List Wd) (h1:w.1=k) (h2:w.2.1=s):isW k s (w :: r)=true:=by
 simp only [isW,h1,h2];simp
theorem ql3 {k j:Int} {s:List UInt8} {w:Wd} {r:List Wd} (h1:w.1=k) (h2:k≠j):isW j s (w :: r)=false:=by
 simp only [isW,h1];simp [h2]
theorem qr19 {k:Int} {s:List UInt8} {r:List Wd}:(takeW k s r).isSome=isW k s r:=by
 cases r with
 | nil=>rfl
 | cons w r=>
  simp only [takeW,isW]
  split<;>rename_i h
  ·rw [h];rfl
  ·simp only [Bool.not_eq_true]at h;rw [h];rfl
theorem take_none {k:Int} {s:List UInt8} {r:List Wd}:takeW k s r=none↔isW k s r=false:=by
 rw [← qr19];cases takeW k s r<;>simp
theorem qi3 {k:Int} {s:List UInt8} {u r:List Wd} (h:u≠ []):isW k s (u ++ r)=isW k s u:=by
 cases u with
 | nil=>exact absurd rfl h
 | cons w u=>rfl
theorem qq8 {k:Int} {u r:List Wd} (h:u≠ []):ofW k (u ++ r)=ofW k u:=by
 cases u with
 | nil=>exact absurd rfl h
 | cons w u=>rfl
theorem qu4 {u r:List Wd} (h:u≠ []):qa2 (u ++ r)=qa2 u:=by
 unfold qa2;rw [qq8 h,qq8 h,qq8 h,qq8 h,qi3 h]
theorem qq14 (ops:List (List UInt8)) (l:List Wd):∀ (u:List Wd) (pe:Bool) (n:Int) (k:Nat) (a:Option Nat),qx5 ops pe n k a (u ++ l)=qx5 ops (qn10 pe u) (nOf n u) (k+u.length) (qx5 ops pe n k a u) l
 | [],pe,n,k,a=>rfl
 | w :: u,pe,n,k,a=>by
  simp only [AJ,qx5,qn10,nOf,AE];rw [show k+(u.length+1)=(k+1)+u.length by omega,qq14 ops l u]
theorem qy9 {ops ops':List (List UInt8)} (hs:∀ x,ops'.contains x=true→ops.contains x=true) {u:List Wd} {pe:Bool} {n:Int} {k:Nat} {a:Option Nat} (h:qf3 (pq ops) pe n u=true):qx5 ops' pe n k a u=a:=by
 have:=qh17 hs [] (k:=k) (a:=a) h
 rwa [List.append_nil]at this
theorem qe6 {w:Wd} (h:w.1=5):qw1 w=false∧qf1 w=false∧qq18 w=false∧nx 0 w=0:=by
 have h1:qw1 w=false:=by unfold qw1;rw [h];rfl
 have h2:qf1 w=false:=by unfold qf1;rw [h];rfl
 refine⟨h1,h2,by unfold qq18;rw [h];rfl,?_⟩;unfold nx;rw [if_neg (by rw [h1];simp),if_neg (by rw [h2];simp)]
theorem qn12 {w:Wd} (h:w.1=5) (h2:w.2.1≠ [47]):ql6 w=false:=by
 unfold ql6;rw [(qe6 h).2.2.1,h];simp [h2]
theorem Good.op {j:Nat} {u v:List Wd} {w:Wd} (hu:Good j u) (hv:Good (j+1) v) (h5:w.1=5) (hs:w.2.1≠ [47]) (hb:(below j).contains w.2.1=false):Good j (u ++ w :: v):=by
 have hp:=qe6 h5;have hv':=hv.le (Nat.le_succ j);refine⟨by simp,?_,?_,?_⟩
 ·rw [qj4,hu.bal];simp only [Ay,qk6,hp.1,hp.2.1,AR,if_false];exact hv.bal
 ·rw [qf7,hu.hit,qd8 hu.bal,hu.last];simp only [qf3,hp.2.2.2,qn12 h5 hs,hv'.hit,Bool.true_and,Bool.and_true];unfold pq;rw [hb,h5];rfl
 ·rw [qz8];simp only [qn10];rw [qn12 h5 hs];exact hv.last
theorem qr21 {j:Nat} {ops:List (List UInt8)} {u v:List Wd} {w:Wd} (hu:Good j u) (hv:Good (j+1) v) (h5:w.1=5) (hs:w.2.1≠ [47]) (ho:ops.contains w.2.1=true) (hb:∀ x,ops.contains x=true→(below (j+1)).contains x=true):qx5 ops false 0 0 none (u ++ w :: v)=some u.length:=by
 rw [qq14,qd8 hu.bal,hu.last];simp only [qx5];rw [(qe6 h5).2.2.2,qn12 h5 hs,if_pos (by simp only [true_and,h5,ho,and_self]),qy9 hb hv.hit,Nat.zero_add]
theorem qs15 {k:Nat} (hk:k<6) {s:List UInt8} {o:List UInt8 × Int} (h:(qy1 k).find? (fun o=>o.1 == s)=some o):(qz4 k).contains s=true∧qw25 s=o.2∧s≠ [47]:=by
 have h1:=List.find?_some h;have h2:=List.mem_of_find?_eq_some h;have h3:o.1=s:=by simpa using h1
 subst h3;clear h h1
 match k,hk with
 | 0,_=>simp only [qy1,List.mem_cons,Bm,or_false]at h2;subst h2;decide
 | 1,_=>simp only [qy1,List.mem_cons,Bm,or_false]at h2;subst h2;decide
 | 2,_=>simp only [qy1,List.mem_cons,Bm,or_false]at h2;rcases h2 with rfl | rfl<;>decide
 | 3,_=>simp only [qy1,List.mem_cons,Bm,or_false]at h2;rcases h2 with rfl | rfl | rfl | rfl<;>decide
 | 4,_=>simp only [qy1,List.mem_cons,Bm,or_false]at h2;rcases h2 with rfl | rfl<;>decide
 | 5,_=>simp only [qy1,List.mem_cons,Bm,or_false]at h2;rcases h2 with rfl | rfl | rfl<;>decide
theorem qb21 {k:Nat} (hk:k<6) {r:List Wd} {o:Int × List Wd} (h:qv15 k r=some o):∃ w,r=w :: o.2∧w.1=5∧(qz4 k).contains w.2.1=true∧qw25 w.2.1=o.1∧w.2.1≠ [47]:=by
 cases r with
 | nil=>cases h
 | cons w r=>
  simp only [qv15]at h
  split at h
  ·rename_i h5
   cases hf:(qy1 k).find? (fun o=>o.1 == w.2.1)with
   | none=>rw [hf]at h;cases h
   | some q=>
    rw [hf]at h
    cases h
    have:=qs15 hk hf;exact⟨w,rfl,by simpa using h5,this⟩
  ·cases h
theorem qd4 {w:Wd} (h1:w.1≠1) (h5:w.1≠5):Tail [w]:=by
 have e1:(w.1 == 1)=false:=by simpa using h1
 have e5:(w.1 == 5)=false:=by simpa using h5
 refine Tail.one ?_ ?_ ?_ ?_
 ·unfold qw1;rw [e1];rfl
 ·unfold qf1;rw [e1];rfl
 ·unfold pq;rw [e1,e5];rfl
 ·unfold ql6 qq18;rw [e1,e5];rfl
theorem qj22 {w:Wd} (h1:w.1=1) (h2:w.2.1= [46]∨w.2.1= [46,46]):Tail [w]:=by
 refine Tail.one ?_ ?_ ?_ ?_
 ·unfold qw1;rw [h1];rcases h2 with h | h<;>rw [h]<;>decide
 ·unfold qf1;rw [h1];rcases h2 with h | h<;>rw [h]<;>decide
 ·unfold pq;rw [h1];rcases h2 with h | h<;>rw [h]<;>decide
 ·unfold ql6 qq18;rw [h1];rcases h2 with h | h<;>rw [h]<;>decide
theorem qm17 {w:Wd} {u:List Wd} (h5:w.1=5) (h2:w.2.1= [47]∨w.2.1= [47,47]) (hu:Tail u) (hn:u≠ []):Tail (w :: u):=by
 have hp:=qe6 h5;refine⟨?_,?_,?_⟩
 ·simp only [qk6,hp.1,hp.2.1,AR,if_false];exact hu.bal
 ·simp only [qf3,hp.2.2.2];have:pq (below 7) true w=false:=by unfold pq;rw [h5];rcases h2 with h | h<;>rw [h]<;>decide
  rw [this]
  cases ql6 w with
  | true=>simpa using hu.hit
  | false=>simpa using qs12 (pq_pe _) hu.hit
 ·simp only [qn10];rw [qt15 hn _ true];exact hu.last
theorem ql12 {w:Wd} {u:List Wd} (h5:w.1=7∨w.1=1∧(w.2.1= [64]∨w.2.1= [58,58])) (hu:Tail u) (hn:u≠ []):Tail (w :: u):=by
 have h1:qw1 w=false:=by unfold qw1;rcases h5 with h | ⟨h,h2 | h2⟩<;>rw [h]<;>(try rw [h2])<;>rfl
 have h2':qf1 w=false:=by unfold qf1;rcases h5 with h | ⟨h,h2 | h2⟩<;>rw [h]<;>(try rw [h2])<;>rfl
 refine⟨?_,?_,?_⟩
 ·simp only [qk6,h1,h2',AR,if_false];exact hu.bal
 ·have e:nx 0 w=0:=by unfold nx;rw [if_neg (by rw [h1];simp),if_neg (by rw [h2'];simp)]
  simp only [qf3,e];have:pq (below 7) true w=false:=by unfold pq;rcases h5 with h | ⟨h,h2 | h2⟩<;>rw [h]<;>(try rw [h2])<;>rfl
  rw [this]
  cases ql6 w with
  | true=>simpa using hu.hit
  | false=>simpa using qs12 (pq_pe _) hu.hit
 ·simp only [qn10];rw [qt15 hn _ true];exact hu.last
theorem qw5 {w:Wd} {s:List UInt8} (h1:w.1=1) (h2:w.2.1=s) (hs:s= [40]∨s= [91]):qw1 w=true:=by unfold qw1;rw [h1,h2];rcases hs with rfl | rfl<;>rfl
theorem qb4 {w:Wd} {s:List UInt8} (h1:w.1=1) (h2:w.2.1=s) (hs:s= [41]∨s= [93]):qf1 w=true:=by unfold qf1;rw [h1,h2];rcases hs with rfl | rfl<;>rfl
theorem qv6 {r r':List Wd} {t:Int × List UInt8 × Bool} (h:qb3 r=some (t,r')):∃ u,r=u ++ r'∧Tail u∧u≠ []∧(ofW 2 u=true∨ofW 3 u=true∨ofW 4 u=true)∧ ∀ rest,qb3 (u ++ rest)=some (t,rest):=by
 cases r with
 | nil=>cases h
 | cons w r=>
  simp only [qb3]at h;by_cases h2:w.1=2
  ·rw [h2]at h;cases h
   exact⟨[w],rfl,qd4 (by omega) (by omega),by simp,.inl (by simp [ofW,h2]),fun rest=>by simp [qb3,h2]⟩
  by_cases h3:w.1=3
  ·rw [h3]at h;cases h
   exact⟨[w],rfl,qd4 (by omega) (by omega),by simp,.inr (.inl (by simp [ofW,h3])),fun rest=>by simp [qb3,h3]⟩
  have e2:(w.1 == 2)=false:=by simpa using h2
  have e3:(w.1 == 3)=false:=by simpa using h3
  rw [e2,e3]at h;simp only [AR,if_false]at h;by_cases h4:w.1=4
  ·rw [h4]at h;simp only [BEq.rfl,if_true]at h;obtain⟨r1,h5,h6⟩:=ql h;obtain⟨o,rfl,o1,o2⟩:=qv h5
   have three:∀ (q:Int × List UInt8 × Bool) (d:List Wd),(takeW 1 [41] r1).map (fun r2=>(q,r2))=some (t,r')→ ∃ c,r1=c :: r'∧c.1=1∧c.2.1= [41]∧t=q:=by
    intro q d hq
    cases hc:takeW 1 [41] r1 with
    | none=>rw [hc]at hq;cases hq
    | some r2=>
     rw [hc]at hq
     cases hq
     obtain⟨c,rfl,c1,c2⟩:=qv hc;exact⟨c,rfl,c1,c2,rfl⟩
   have good:∀ c:Wd,c.1=1→c.2.1= [41]→Tail [w,o,c]:=by
    intro c c1 c2;have:=Tail.brackets (o:=o) (c:=c) (u:=[]) (qw5 o1 o2 (.inl rfl)) rfl (qb4 c1 c2 (.inl rfl)) (by rw [c2,o2];rfl);exact(qd4 (w:=w) (by omega) (by omega)).app this
   by_cases k1:w.2.1=qt2
   ·rw [if_pos k1]at h6;obtain⟨c,rfl,c1,c2,rfl⟩:=three _ [] h6;exact⟨[w,o,c],rfl,good c c1 c2,by simp,.inr (.inr (by simp [ofW,h4])),fun rest=>by simp [qb3,h4,takeW,o1,o2,k1,c1,c2]⟩
   rw [if_neg k1]at h6;by_cases k2:w.2.1=qk9
   ·rw [if_pos k2]at h6;obtain⟨c,rfl,c1,c2,rfl⟩:=three _ [] h6;exact⟨[w,o,c],rfl,good c c1 c2,by simp,.inr (.inr (by simp [ofW,h4])),fun rest=>by rw [show([w,o,c]:List Wd) ++ rest=w :: o :: c :: rest by rfl];simp only [qb3];rw [h4,take_of _ o1 o2];simp only [Ay];rw [if_neg k1,if_pos k2,take_of _ c1 c2];rfl⟩
   rw [if_neg k2]at h6;by_cases k3:w.2.1=tPI
   ·rw [if_pos k3]at h6
    cases r1 with
    | nil=>cases h6
    | cons v r2=>
     simp only []at h6;by_cases v8:v.1=8
     ·rw [v8]at h6;simp only [BEq.rfl,if_true]at h6
      cases hc:takeW 1 [41] r2 with
      | none=>rw [hc]at h6;cases h6
      | some r3=>
       rw [hc]at h6
       cases h6
       obtain⟨c,rfl,c1,c2⟩:=qv hc;refine⟨[w,o,v,c],rfl,?_,by simp,.inr (.inr (by simp [ofW,h4])),fun rest=>by rw [show([w,o,v,c]:List Wd) ++ rest=w :: o :: v :: c :: rest by rfl];simp only [qb3];rw [h4,take_of _ o1 o2];simp only [Ay];rw [if_neg k1,if_neg k2,if_pos k3,v8,take_of _ c1 c2];rfl⟩;have:=Tail.brackets (o:=o) (c:=c) (u:=[v]) (qw5 o1 o2 (.inl rfl)) (qd4 (w:=v) (by omega) (by omega)).bal (qb4 c1 c2 (.inl rfl)) (by rw [c2,o2];rfl);exact(qd4 (w:=w) (by omega) (by omega)).app this
     ·have e8:(v.1 == 8)=false:=by simpa using v8
      rw [e8]at h6;simp only [AR,if_false]at h6;obtain⟨c,hc,c1,c2,rfl⟩:=three _ [] h6
      cases hc
      exact⟨[w,o,v],rfl,good v c1 c2,by simp,.inr (.inr (by simp [ofW,h4])),fun rest=>by rw [show([w,o,v]:List Wd) ++ rest=w :: o :: v :: rest by rfl];simp only [qb3];rw [h4,take_of _ o1 o2];simp only [Ay];rw [if_neg k1,if_neg k2,if_pos k3,e8,take_of _ c1 c2];rfl⟩
   ·rw [if_neg k3]at h6;obtain⟨c,rfl,c1,c2,rfl⟩:=three _ [] h6;exact⟨[w,o,c],rfl,good c c1 c2,by simp,.inr (.inr (by simp [ofW,h4])),fun rest=>by rw [show([w,o,c]:List Wd) ++ rest=w :: o :: c :: rest by rfl];simp only [qb3];rw [h4,take_of _ o1 o2];simp only [Ay];rw [if_neg k1,if_neg k2,if_neg k3,take_of _ c1 c2];rfl⟩
  ·have e4:(w.1 == 4)=false:=by simpa using h4
   rw [e4]at h
   cases h
theorem qv24 {k:Int} {u:List Wd} (h:ofW k u=true):∃ w v,u=w :: v∧w.1=k:=by
 cases u with
 | nil=>cases h
 | cons w v=>exact⟨w,v,rfl,by simpa [ofW]using h⟩
theorem qr14 {r r1 r':List Wd} {a:Int} {t:Int × List UInt8 × Bool} (h:qh8 r=some (a,r1)) (ht:qb3 r1=some (t,r')):∃ u,r=u ++ r'∧Tail u∧u≠ []∧isW 1 [46] u=false∧isW 1 [46,46] u=false ∧
  ∀ rest,∃ r2,qh8 (u ++ rest)=some (a,r2)∧qb3 r2=some (t,rest):=by
 obtain⟨v,rfl,hv,hvn,hvk,hvt⟩:=qv6 ht
 obtain⟨x,v',rfl,hx⟩:∃ x v',v=x :: v'∧(x.1=2∨x.1=3∨x.1=4):=by
  rcases hvk with h | h | h<;>obtain⟨x,v',h1,h2⟩:=qv24 h
  ·exact⟨x,v',h1,.inl h2⟩
  ·exact⟨x,v',h1,.inr (.inl h2)⟩
  ·exact⟨x,v',h1,.inr (.inr h2)⟩
 have x1:x.1≠1:=by omega
 have e7:(x.1 == 7)=false:=by simp;omega
 unfold qh8 at h
 cases hat:takeW 1 [64] r with
 | some r3=>
  rw [hat]at h
  cases h
  obtain⟨w,rfl,w1,w2⟩:=qv hat;refine⟨w :: x :: v',rfl,ql12 (.inr ⟨w1,.inl w2⟩) hv hvn,by simp,?_,?_,fun rest=>⟨x :: (v' ++ rest),?_,hvt rest⟩⟩
  ·simp only [isW,w1,w2];rfl
  ·simp only [isW,w1,w2];rfl
  ·unfold qh8;rw [show w :: x :: v' ++ rest=w :: (x :: (v' ++ rest)) by rfl,take_of _ w1 w2]
 | none=>
  rw [hat]at h
  cases r with
  | nil=>cases h
  | cons w r=>
   simp only []at h
   split at h
   ·rename_i h7
    have h7:w.1=7:=by simpa using h7
    split at h
    ·cases h
    ·rename_i hax
     cases hc:takeW 1 [58,58] r with
     | none=>rw [hc]at h;cases h
     | some r2=>
      rw [hc]at h
      cases h
      obtain⟨c,rfl,c1,c2⟩:=qv hc;refine⟨w :: c :: x :: v',rfl,ql12 (.inl h7) (ql12 (.inr ⟨c1,.inr c2⟩) hv hvn) (by simp),by simp,?_,?_,fun rest=>⟨x :: (v' ++ rest),?_,hvt rest⟩⟩
      ·exact ql3 h7 (by omega)
      ·exact ql3 h7 (by omega)
      ·unfold qh8;rw [show w :: c :: x :: v' ++ rest=w :: c :: (x :: (v' ++ rest)) by rfl,take_none.2 (ql3 h7 (by omega))];simp only [];rw [if_pos (by simp [h7]),if_neg hax,take_of _ c1 c2];rfl
   ·cases h
    refine⟨x :: v',rfl,hv,by simp,ql3 rfl x1,ql3 rfl x1,fun rest=>⟨x :: (v' ++ rest),?_,hvt rest⟩⟩;unfold qh8;rw [show x :: v' ++ rest=x :: (v' ++ rest) by rfl,take_none.2 (ql3 rfl x1)];simp only [e7,AR,if_false]
end Go.Proofs.YtocdckniokhbbaaGreatDoor.Syn
