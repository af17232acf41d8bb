import Derived.Test.YtocdckniokhbbaaGreatDoorZrZz
import Derived.Test.YtocdckniokhbbaaGreatDoorZrTxt
set_option linter.unusedVariables false
set_option linter.unusedSimpArgs false
open Go.Lib renaming decodeL→AU
open Option renaming some→Az
open Prod.mk renaming injEq→AP
open List renaming cons_append→AJ,takeWhile_cons→Bj,dropWhile_cons→Bk,length_append→Aq,length_drop→Bf,length_cons→AE,dropWhile_sublist→Bn,append_assoc→A9,nil_append→AN
open Bool renaming and_eq_true→AK
open Nat renaming le_refl→Ag
namespace Go.Proofs.YtocdckniokhbbaaGreatDoor.LexA
open Go.RowKit YtocdckniokhbbaaGreatDoorW.PrintWords YtocdckniokhbbaaGreatDoorW.PrintLast YtocdckniokhbbaaGreatDoorW.PrintMore CharA CharB CharD CharF SpanA FigA FigC Txt
abbrev Wd:=Int × List UInt8 × Int × Int
def marksL:List (List UInt8):=[[46,46],[58,58],[40],[41],[91],[93],[46],[64],[44]]
def opsL:List (List UInt8):=[[47,47],[33,61],[60,61],[62,61],[47],[124],[43],[45],[61],[60],[62]]
def opensL:List (List UInt8):=[[64],[58,58],[40],[91],[44]]
def fourL:List (List UInt8):=[[97,110,100],[111,114],[109,111,100],[100,105,118]]
def typesL:List (List UInt8):=[[99,111,109,109,101,110,116],[116,101,120,116],[112,114,111,99,101,115,115,105,110,103,45,105,110,115,116,114,117,99,116,105,111,110],[110,111,100,101]]
def qg1 (l:List (List UInt8)) (s:List UInt8):Option (List UInt8):=l.find? (·.isPrefixOf s)
def qi2 (l:List Wd):Bool:=match l.getLast? with
 | none=>false
 | some w=>if w.1=5 then false else if w.1=1 then !(opensL.contains w.2.1)else true
def qa14:Nat→List UInt8→List UInt8
 | 0,_=>[]
 | n+1,s=>if s= []then []else if qv8 ((AU s).1:Int)=true then s.take (AU s).2 ++ qa14 n (s.drop (AU s).2)else []
def qa4 (s:List UInt8):List UInt8:=qa14 s.length s
def qf10 (c:UInt8):List UInt8→Option (List UInt8 × List UInt8)
 | []=>none
 | d :: t=>if d=c then some ([],t)else match qf10 c t with | some (a,r)=>some (d :: a,r) | none=>none
def qg5 (s:List UInt8):List UInt8:=if(s.dropWhile qr1).head?=some 46 then s.takeWhile qr1 ++ 46 :: (s.dropWhile qr1).tail.takeWhile qr1 else s.takeWhile qr1
def qv12 (x r:List UInt8):Int:=if([40]:List UInt8).isPrefixOf (r.dropWhile spB)then(if typesL.contains x then 4 else 6)else if([58,58]:List UInt8).isPrefixOf (r.dropWhile spB)then 7 else 2
def qr12 (s:List UInt8):Bool:=match s with | []=>false | c :: t=>qr1 c || (c == 46 && (match t with | []=>false | d :: _=>qr1 d))
def litW (c:UInt8) (t:List UInt8):Option (Wd × List UInt8):=match qf10 c t with | some (a,r)=>some ((8,a,0,0),r) | none=>none
def numW (s:List UInt8):Option (Wd × List UInt8):=if(qf8 (qg5 s)).2=true∧(qf8 (qg5 s)).1.1=0 then some ((9,qg5 s,(qf8 (qg5 s)).1),s.drop (qg5 s).length)else none
def varW (t:List UInt8):Option (Wd × List UInt8):=if qc8 (ba (qa4 t))=true then some ((10,qa4 t,0,0),t.drop (qa4 t).length)else none
def qx9 (s:List UInt8) (e:Bool):Option (Wd × List UInt8):=
 if qc8 (ba (qa4 s))=true then(if e=true then(if fourL.contains (qa4 s)=true then some ((5,qa4 s,0,0),s.drop (qa4 s).length)else none)else some ((qv12 (qa4 s) (s.drop (qa4 s).length),qa4 s,0,0),s.drop (qa4 s).length))else none
def qa15 (s:List UInt8) (e:Bool):Option (Wd × List UInt8):=
 match s with
 | []=>none
 | c :: t=>
  if c=34∨c=39 then litW c t
  else if qr12 s=true then numW s
  else match qg1 marksL s with
   | some m=>some ((1,m,0,0),s.drop m.length)
   | none=>match qg1 opsL s with
    | some m=>some ((5,m,0,0),s.drop m.length)
    | none=>if c=42 then some ((if e=true then 5 else 3,[42],0,0),t)else if c=36 then varW t else qx9 s e
def qh5:Nat→List UInt8→List Wd→List Wd × Int
 | 0,_,acc=>(acc,0)
 | n+1,s,acc=>if s= []then(acc,0)else match qa15 s (qi2 acc)with | none=>([],30) | some (w,r)=>if 120<acc.length+1 then([],3)else qh5 n (r.dropWhile spB) (acc ++ [w])
def qn5 (s:List UInt8):List Wd × Int:=if 400<s.length then([],3)else if qp3 (ba s)=true then qh5 s.length (s.dropWhile spB) []else([],10)
theorem qj7 (c:UInt8):∀ (t a r:List UInt8),qf10 c t=some (a,r)→t=a ++ c :: r∧ ∀ x ∈ a,x≠c
 | [],a,r,h=>by cases h
 | d :: t,a,r,h=>by
  simp only [qf10]at h;by_cases hd:d=c
  ·rw [if_pos hd]at h;cases h;rw [hd];exact⟨rfl,fun x hx=>by cases hx⟩
  ·rw [if_neg hd]at h
   cases hq:qf10 c t with
   | none=>rw [hq]at h;cases h
   | some q=>
    obtain⟨a',r'⟩:=q;rw [hq]at h;simp only [Az.injEq,AP]at h;obtain⟨rfl,rfl⟩:=h;obtain⟨h1,h2⟩:=qj7 c t a' r' hq;refine⟨by rw [h1];rfl,fun x hx=>?_⟩
    rcases List.mem_cons.1 hx with rfl | hx
    ·exact hd
    ·exact h2 x hx
theorem qr22 (c:UInt8):∀ (a r:List UInt8),(∀ x ∈ a,x≠c)→qf10 c (a ++ c :: r)=some (a,r)
 | [],r,_=>by simp [qf10]
 | d :: a,r,h=>by
  rw [AJ];simp only [qf10];rw [if_neg (h d (by simp)),qr22 c a r (fun x hx=>h x (by simp [hx]))]
theorem qf6 {l:List (List UInt8)} {s m:List UInt8} (h:qg1 l s=some m):m ∈ l∧m.isPrefixOf s=true:=by
 unfold qg1 at h;exact⟨List.mem_of_find?_eq_some h,by have:=List.find?_some h;exact this⟩
theorem qm12 {m s:List UInt8} (h:m.isPrefixOf s=true):m.length≤s.length:=(List.isPrefixOf_iff_prefix.1 h).length_le
theorem qf25 (m:List UInt8) (h:m ∈ marksL):1≤m.length:=by
 unfold marksL at h;simp at h
 rcases h with rfl | rfl | rfl | rfl | rfl | rfl | rfl | rfl | rfl<;>decide
theorem ops_ne (m:List UInt8) (h:m ∈ opsL):1≤m.length:=by
 unfold opsL at h;simp at h
 rcases h with rfl | rfl | rfl | rfl | rfl | rfl | rfl | rfl | rfl | rfl | rfl<;>decide
theorem num_len {c:UInt8} {t:List UInt8} (h:qr12 (c :: t)=true):1≤(qg5 (c :: t)).length:=by
 unfold qr12 at h;simp only [Bool.or_eq_true,AK,beq_iff_eq]at h;unfold qg5;by_cases hd:qr1 c=true
 ·split<;>simp [Bj,hd]
 ·rcases h with h | ⟨h,_⟩
  ·exact absurd h hd
  ·subst h;rw [Bk,if_neg hd];simp;omega
theorem qc25 {x:List UInt8} (h:qc8 (ba x)=true):1≤x.length:=by
 unfold qc8 at h;rw [qj1]at h;by_cases h1:x.length<1
 ·rw [if_pos h1]at h;cases h
 ·omega
theorem qi12:∀ (n:Nat) (s:List UInt8),(qa14 n s).length≤s.length
 | 0,s=>by simp [qa14]
 | n+1,s=>by
  simp only [qa14]
  split
  ·simp
  ·split
   ·have:=qi12 n (s.drop (AU s).2);rw [Aq,List.length_take];rw [Bf]at this;omega
   ·simp
theorem qp12 {s:List UInt8} {e:Bool} {w:Wd} {r:List UInt8} (h:qa15 s e=some (w,r)):r.length<s.length:=by
 cases s with
 | nil=>cases h
 | cons c t=>
  simp only [qa15]at h
  split at h
  ·unfold litW at h
   cases hq:qf10 c t with
   | none=>rw [hq]at h;cases h
   | some q=>
    obtain⟨a,r'⟩:=q;rw [hq]at h
    cases h
    have:=(qj7 c t a r hq).1;rw [this];simp;omega
  split at h
  ·rename_i hn
   have:=num_len hn;unfold numW at h
   split at h
   ·cases h
    rw [Bf,AE];omega
   ·cases h
  split at h
  ·rename_i m hm
   have:=qf25 m (qf6 hm).1
   cases h
   rw [Bf,AE];omega
  split at h
  ·rename_i m hm
   have:=ops_ne m (qf6 hm).1
   cases h
   rw [Bf,AE];omega
  split at h
  ·cases h;simp
  split at h
  ·unfold varW at h
   split at h
   ·cases h
    rw [Bf,AE];omega
   ·cases h
  ·unfold qx9 at h
   have fin:∀ v:Wd,some (v,(c :: t).drop (qa4 (c :: t)).length)=some (w,r)→qc8 (ba (qa4 (c :: t)))=true→r.length<(c :: t).length:=by
    intro v hv hn;have:=qc25 hn;have hr:=congrArg Prod.snd (Az.inj hv);simp only at hr;rw [← hr,Bf,AE];omega
   split at h
   ·rename_i hn
    split at h
    ·split at h
     ·exact fin _ h hn
     ·cases h
    ·exact fin _ h hn
   ·cases h
theorem qt14 (p:UInt8→Bool) (l:List UInt8):(l.dropWhile p).length≤l.length:=(Bn p).length_le
theorem dec_sp (x y:List UInt8) (c:UInt8) (hx:x≠ []) (hc:c.toNat<128):AU (x ++ c :: y)=AU x∧(AU x).2≤x.length:=by
 obtain⟨h1,h2⟩:=dec_in x y c hx hc;by_cases hd:AU (x ++ c :: y)=(65533,1)
 ·rw [h1 hd,hd];exact⟨rfl,List.length_pos_iff.2 hx⟩
 ·obtain⟨e1,e2⟩:=h2 hd;rw [e1];exact⟨rfl,e2⟩
theorem qd12 (p:UInt8→Bool) (c:UInt8) (hc:p c=false) (y:List UInt8):∀ s:List UInt8,(s ++ c :: y).takeWhile p=s.takeWhile p
 | []=>by simp [Bj,hc]
 | d :: s=>by
  rw [AJ,Bj,Bj,qd12 p c hc y s]
theorem qd5 (p:UInt8→Bool) (c:UInt8) (hc:p c=false) (y:List UInt8):∀ s:List UInt8,(s ++ c :: y).dropWhile p=s.dropWhile p ++ c :: y
 | []=>by simp [Bk,hc]
 | d :: s=>by
  rw [AJ,Bk,Bk,qd5 p c hc y s]
  split<;>rfl
theorem qw15 (s:List UInt8):(qg5 s).length≤s.length:=by
 have h:s.takeWhile qr1 ++ s.dropWhile qr1=s:=List.takeWhile_append_dropWhile;have hl:=congrArg List.length h;rw [Aq]at hl;unfold qg5
 split
 ·rename_i h2
  cases hr:s.dropWhile qr1 with
  | nil=>rw [hr]at h2;simp at h2
  | cons a t=>
   rw [hr]at hl;have:=(List.takeWhile_sublist (l:=t) qr1).length_le;simp at hl ⊢;omega
 ·omega
theorem qj20 (s:List UInt8):(qa4 s).length≤s.length:=qi12 _ s
end Go.Proofs.YtocdckniokhbbaaGreatDoor.LexA
namespace Go.Proofs.YtocdckniokhbbaaGreatDoor.BrkA
open Go.RowKit YtocdckniokhbbaaGreatDoorW.PrintWords YtocdckniokhbbaaGreatDoorW.PrintLast YtocdckniokhbbaaGreatDoorW.PrintMore CharA CharB CharD CharF SpanA FigA FigC Txt LexA
theorem ql26 (q:UInt8) (z:List UInt8):∀ (t a r:List UInt8),qf10 q t=some (a,r)→qf10 q (t ++ z)=some (a,r ++ z):=by
 intro t a r h;obtain⟨h1,h2⟩:=qj7 q t a r h;rw [h1,A9,AJ];exact qr22 q a (r ++ z) h2
theorem qj25:(41:UInt8).toNat<128:=by decide
theorem part41:qv8 ((41:UInt8).toNat:Int)=false:=by decide +kernel
theorem qi26:qr1 41=false:=by decide
theorem sp41:spB 41=false:=by decide
theorem qp20 (m:List UInt8) (hm:∀ x ∈ m,x≠41) (y:List UInt8):∀ s:List UInt8,m.isPrefixOf (s ++ 41 :: y)=m.isPrefixOf s:=by
 induction m with
 | nil=>intro s;rfl
 | cons a m ih=>
  intro s;have ha:=hm a (by simp)
  cases s with
  | nil=>
   simp only [AN,List.isPrefixOf];have:(a == 41)=false:=beq_eq_false_iff_ne.2 ha;rw [this];rfl
  | cons d s=>
   simp only [AJ,List.isPrefixOf];rw [ih (fun x hx=>hm x (by simp [hx])) s]
theorem qj17 (l:List (List UInt8)) (hl:∀ m ∈ l,m= [41]∨ ∀ x ∈ m,x≠41) (y:List UInt8) (d:UInt8) (t:List UInt8):qg1 l (d :: t ++ 41 :: y)=qg1 l (d :: t):=by
 unfold qg1
 induction l with
 | nil=>rfl
 | cons m l ih=>
  have e:m.isPrefixOf (d :: t ++ 41 :: y)=m.isPrefixOf (d :: t):=by
   rcases hl m (by simp)with rfl | h
   ·simp [List.isPrefixOf]
   ·exact qp20 m h y (d :: t)
  rw [List.find?_cons,List.find?_cons,e,ih (fun m hm=>hl m (by simp [hm]))]
theorem qg25:∀ m ∈ marksL,m= [41]∨ ∀ x ∈ m,x≠41:=by decide +kernel
theorem ops_br:∀ m ∈ opsL,m= [41]∨ ∀ x ∈ m,x≠41:=by decide +kernel
theorem qk20 (y:List UInt8):∀ (n m:Nat) (s:List UInt8),s.length≤n→s.length+1≤m→qa14 m (s ++ 41 :: y)=qa14 n s
 | n,0,s,h1,h2=>by omega
 | 0,m+1,s,h1,h2=>by
  obtain rfl:s= []:=List.length_eq_zero_iff.1 (by omega);simp only [qa14,AN];rw [if_neg (by simp),Lib.decodeL_ascii 41 y qj25];simp only;rw [if_neg (by rw [part41];simp)]
 | n+1,m+1,s,h1,h2=>by
  by_cases hs:s= []
  ·subst hs;simp only [qa14,AN];rw [if_neg (by simp),Lib.decodeL_ascii 41 y qj25];simp only;rw [if_neg (by rw [part41];simp),if_pos trivial]
  ·obtain⟨e1,e2⟩:=dec_sp s y 41 hs qj25;have hw:=Lib.decodeL_width s;simp only [qa14];rw [if_neg (by simp),if_neg hs,e1]
   split
   ·rw [List.take_append_of_le_length e2,List.drop_append_of_le_length e2,qk20 y n m _ (by rw [Bf];omega) (by rw [Bf];omega)]
   ·rfl
theorem run_br (y s:List UInt8):qa4 (s ++ 41 :: y)=qa4 s:=by
 unfold qa4;exact qk20 y _ _ s (Ag _) (by simp)
theorem num_br (y s:List UInt8):qg5 (s ++ 41 :: y)=qg5 s:=by
 unfold qg5;rw [qd12 qr1 41 qi26 y s,qd5 qr1 41 qi26 y s]
 cases hr:s.dropWhile qr1 with
 | nil=>rw [AN,if_neg (by simp),if_neg (by simp)]
 | cons d t=>
  simp only [AJ,List.head?_cons,List.tail_cons];rw [qd12 qr1 41 qi26 y t];rfl
theorem numB_br (y:List UInt8) (d:UInt8) (t:List UInt8):qr12 (d :: t ++ 41 :: y)=qr12 (d :: t):=by
 cases t with
 | nil=>simp [qr12,qi26]
 | cons b t=>rfl
theorem kind_br (x r y:List UInt8):qv12 x (r ++ 41 :: y)=qv12 x r:=by
 unfold qv12;rw [qd5 spB 41 sp41 y r,qp20 [40] (by decide) y,qp20 [58,58] (by decide) y]
theorem qi7 (s z:List UInt8) (n:Nat) (h:n≤s.length):(s ++ z).drop n=s.drop n ++ z:=List.drop_append_of_le_length h
theorem one_br {s:List UInt8} {e:Bool} {w:Wd} {r:List UInt8} (h:qa15 s e=some (w,r)) (y:List UInt8):qa15 (s ++ 41 :: y) e=some (w,r ++ 41 :: y):=by
 cases s with
 | nil=>cases h
 | cons d t=>
  have hcat:d :: t ++ 41 :: y=d :: (t ++ 41 :: y):=rfl;rw [hcat];simp only [qa15]at h ⊢;by_cases hq:d=34∨d=39
  ·rw [if_pos hq]at h ⊢;unfold litW at h ⊢
   cases hx:qf10 d t with
   | none=>rw [hx]at h;cases h
   | some q=>
    obtain⟨a,r'⟩:=q;rw [hx]at h;rw [ql26 d (41 :: y) t a r' hx]
    cases h
    rfl
  rw [if_neg hq]at h ⊢;have hn:qr12 (d :: (t ++ 41 :: y))=qr12 (d :: t):=numB_br y d t;rw [hn];by_cases hnb:qr12 (d :: t)=true
  ·rw [if_pos hnb]at h ⊢;unfold numW at h ⊢;rw [← hcat,num_br y (d :: t),qi7 _ _ _ (qw15 _)]
   split at h
   ·rename_i hl
    rw [if_pos hl]
    cases h
    rfl
   ·cases h
  rw [if_neg hnb]at h ⊢;rw [← hcat,qj17 marksL qg25 y d t,qj17 opsL ops_br y d t]
  cases hm:qg1 marksL (d :: t)with
  | some m=>
   rw [hm]at h;simp only at h ⊢;rw [qi7 _ _ _ (qm12 (qf6 hm).2)]
   cases h
   rfl
  | none=>
   rw [hm]at h;simp only at h ⊢
   cases ho:qg1 opsL (d :: t)with
   | some m=>
    rw [ho]at h;simp only at h ⊢;rw [qi7 _ _ _ (qm12 (qf6 ho).2)]
    cases h
    rfl
   | none=>
    rw [ho]at h;simp only at h ⊢;by_cases h42:d=42
    ·rw [if_pos h42]at h ⊢
     cases h
     rfl
    rw [if_neg h42]at h ⊢;by_cases h36:d=36
    ·rw [if_pos h36]at h ⊢;unfold varW at h ⊢;rw [run_br y t,qi7 _ _ _ (qj20 _)]
     split at h
     ·rename_i hv
      rw [if_pos hv]
      cases h
      rfl
     ·cases h
    ·rw [if_neg h36]at h ⊢;unfold qx9 at h ⊢;rw [run_br y (d :: t),qi7 _ _ _ (qj20 _),kind_br];generalize qa4 (d :: t)=x at *
     split at h
     ·rename_i hv
      rw [if_pos hv]
      split at h
      ·rename_i he
       rw [if_pos he]
       split at h
       ·rename_i hf
        rw [if_pos hf];have:=Az.inj h;rw [AP]at this;rw [← this.1,← this.2]
       ·cases h
      ·rename_i he
       rw [if_neg he];have:=Az.inj h;rw [AP]at this;rw [← this.1,← this.2]
     ·cases h
theorem qg26 (p acc:List Wd) (h:acc≠ []):qi2 (p ++ acc)=qi2 acc:=by
 obtain⟨w,hw⟩:∃ w,acc.getLast?=some w:=⟨_,List.getLast?_eq_some_getLast h⟩;unfold qi2;rw [List.getLast?_append,hw];rfl
theorem qf17 (y:List UInt8) (p:List Wd):∀ (n m:Nat) (s:List UInt8) (acc l:List Wd),s.length≤n→s.length+y.length+1≤m→s.dropWhile spB=s→(acc= []→qi2 p=false)→qh5 n s acc=(l,0) →
  (∃ k,y.length+1≤k∧qh5 m (s ++ 41 :: y) (p ++ acc)=qh5 k (41 :: y) (p ++ l))∨(qh5 m (s ++ 41 :: y) (p ++ acc)).2=3
 | 0,m,s,acc,l,h,hm,_,hp,hl=>by
  obtain rfl:s= []:=List.length_eq_zero_iff.1 (by omega);simp only [qh5,AP]at hl;exact .inl ⟨m,by simp at hm;omega,by rw [AN,hl.1]⟩
 | n+1,m,s,acc,l,h,hm,hs,hp,hl=>by
  by_cases h0:s= []
  ·subst h0;simp only [qh5,if_true,AP]at hl;exact .inl ⟨m,by simp at hm;omega,by rw [AN,hl.1]⟩
  ·obtain⟨m,rfl⟩:∃ j,m=j+1:=⟨m - 1,by omega⟩
   have he:qi2 (p ++ acc)=qi2 acc:=by
    by_cases ha:acc= []
    ·rw [ha,List.append_nil,hp ha];rfl
    ·exact qg26 p acc ha
   simp only [qh5]at hl ⊢;rw [if_neg h0]at hl;rw [if_neg (by simp),he]
   cases hq:qa15 s (qi2 acc)with
   | none=>rw [hq]at hl;cases hl
   | some q=>
    obtain⟨w,r⟩:=q;rw [hq]at hl;rw [one_br hq y];simp only at hl ⊢;have hll:=qp12 hq;have hdl:(r.dropWhile spB).length≤r.length:=(Bn _).length_le
    split at hl
    ·cases hl
    ·by_cases hacc:120<(p ++ acc).length+1
     ·rw [if_pos hacc];exact .inr rfl
     ·rw [if_neg hacc,qd5 spB 41 sp41 y r,A9]
      have hd:(r.dropWhile spB).dropWhile spB=r.dropWhile spB:=by
       cases hr:r.dropWhile spB with
       | nil=>rfl
       | cons c t=>
        have:=List.head_dropWhile_not spB (by rw [hr];simp:r.dropWhile spB≠ []);simp only [hr,List.head_cons]at this;rw [Bk,if_neg (by rw [this];simp)]
      exact qf17 y p n m _ _ l (by omega) (by omega) hd (fun h=>absurd h (by simp)) hl
theorem qo12 (z:List UInt8) (e:Bool):qa15 (40 :: z) e=some ((1,[40],0,0),z):=rfl
theorem qu9 (z:List UInt8) (e:Bool):qa15 (41 :: z) e=some ((1,[41],0,0),z):=rfl
theorem qu24 (z:List UInt8) (e:Bool):qa15 (43 :: 32 :: z) e=some ((5,[43],0,0),32 :: z):=rfl
def wO:Wd:=(1,[40],0,0)
def wC:Wd:=(1,[41],0,0)
def wP:Wd:=(5,[43],0,0)
theorem qc10 (l:List Wd):qi2 (l ++ [wO])=false:=by
 unfold qi2;rw [List.getLast?_append];rfl
theorem qb5 {k:Nat} {c:UInt8} {z r:List UInt8} {acc:List Wd} {w:Wd} (h:∀ e,qa15 (c :: z) e=some (w,r)) (hk:1≤k):qh5 k (c :: z) acc=qh5 (k - 1) (r.dropWhile spB) (acc ++ [w])∨(qh5 k (c :: z) acc).2=3:=by
 obtain⟨k,rfl⟩:∃ j,k=j+1:=⟨k - 1,by omega⟩;simp only [qh5];rw [if_neg (by simp),h];simp only;by_cases ha:120<acc.length+1
 ·rw [if_pos ha];exact .inr rfl
 ·rw [if_neg ha];exact .inl rfl
theorem qm21 (k:Nat) (acc:List Wd):qh5 k [] acc=(acc,0):=by cases k<;>simp [qh5]
theorem lexS_ok {s:List UInt8} {l:List Wd} (h:qn5 s=(l,0)):qp3 (ba s)=true∧qh5 s.length (s.dropWhile spB) []=(l,0):=by
 unfold qn5 at h
 split at h
 ·cases h
 ·split at h
  ·rename_i h2;exact⟨h2,h⟩
  ·cases h
theorem drop_drop (s:List UInt8):(s.dropWhile spB).dropWhile spB=s.dropWhile spB:=by
 cases hr:s.dropWhile spB with
 | nil=>rfl
 | cons c t=>
  have:=List.head_dropWhile_not spB (by rw [hr];simp:s.dropWhile spB≠ []);simp only [hr,List.head_cons]at this;rw [Bk,if_neg (by rw [this];simp)]
theorem qj15 (s:List UInt8) (h:qp3 (ba s)=true) (y:List UInt8) (hy:qp3 (ba y)=true):qp3 (ba (40 :: (s ++ 41 :: y)))=true:=by
 rw [qq5 40 _ (by decide),qn23 41 qj25 s y,h,hy];decide +kernel
theorem qu25 {s:List UInt8} {l:List Wd} (hs:s.length≤190) (h:qn5 s=(l,0)):qn5 (40 :: (s ++ [41]))=(wO :: (l ++ [wC]),0)∨(qn5 (40 :: (s ++ [41]))).2=3:=by
 obtain⟨ht,hl⟩:=lexS_ok h;have hd:(40 :: (s ++ [41])).dropWhile spB=40 :: (s ++ [41]):=rfl;unfold qn5;rw [if_neg za6,qj15 s ht [] qu6,hd];simp only [if_true];have hdl:(s.dropWhile spB).length≤s.length:=(Bn _).length_le
 rcases qb5 (k:=(40 :: (s ++ [41])).length) (acc:=[]) (qo12 (s ++ [41])) (by simp)with e | e
 ·rw [e,qd5 spB 41 sp41 [] s]
  rcases qf17 [] [wO] s.length ((40 :: (s ++ [41])).length - 1) (s.dropWhile spB) [] l hdl za6 (drop_drop s) (fun _=>qc10 []) hl with ⟨k,hk,e2⟩ | e2
  ·rw [List.append_nil]at e2;rw [show([] ++ [((1,[40],0,0):Wd)])= [wO]from rfl,e2]
   rcases qb5 (k:=k) (acc:=[wO] ++ l) (qu9 []) (by omega)with e3 | e3
   ·left;rw [e3,List.dropWhile_nil,qm21];rfl
   ·right;exact e3
  ·right;rw [List.append_nil]at e2;exact e2
 ·right;exact e
theorem qt25 {s t:List UInt8} {l1 l2:List Wd} (hs:s.length≤190) (ht:t.length≤190) (h1:qn5 s=(l1,0)) (h2:qn5 t=(l2,0)) :
  qn5 (40 :: (s ++ 41 :: 32 :: 43 :: 32 :: 40 :: (t ++ [41])))=(wO :: (l1 ++ wC :: wP :: wO :: (l2 ++ [wC])),0)∨(qn5 (40 :: (s ++ 41 :: 32 :: 43 :: 32 :: 40 :: (t ++ [41])))).2=3:=by
 obtain⟨t1,k1⟩:=lexS_ok h1;obtain⟨t2,k2⟩:=lexS_ok h2;have hd:(40 :: (s ++ 41 :: 32 :: 43 :: 32 :: 40 :: (t ++ [41]))).dropWhile spB=40 :: (s ++ 41 :: 32 :: 43 :: 32 :: 40 :: (t ++ [41])):=rfl
 have hy:qp3 (ba (32 :: 43 :: 32 :: 40 :: (t ++ [41])))=true:=by
  rw [qq5 32 _ (by decide),qq5 43 _ (by decide),qq5 32 _ (by decide),qj15 t t2 [] qu6];decide +kernel
 unfold qn5;rw [if_neg za6,qj15 s t1 _ hy,hd];simp only [if_true];have d1:(s.dropWhile spB).length≤s.length:=(Bn _).length_le;have d2:(t.dropWhile spB).length≤t.length:=(Bn _).length_le;generalize hK:(40 :: (s ++ 41 :: 32 :: 43 :: 32 :: 40 :: (t ++ [41]))).length=K;have hK2:K=s.length+t.length+7:=by rw [← hK];simp;omega
 clear hK hd hy t1 t2
 rcases qb5 (k:=K) (acc:=[]) (qo12 (s ++ 41 :: 32 :: 43 :: 32 :: 40 :: (t ++ [41]))) (by omega)with e | e
 ·rw [e,qd5 spB 41 sp41 _ s]
  rcases qf17 (32 :: 43 :: 32 :: 40 :: (t ++ [41])) [wO] s.length (K - 1) (s.dropWhile spB) [] l1 d1 za6 (drop_drop s) (fun _=>qc10 []) k1 with ⟨k,hk,e2⟩ | e2
  ·rw [List.append_nil]at e2;rw [show([] ++ [((1,[40],0,0):Wd)])= [wO]from rfl,e2];have hk:t.length+6≤k:=by simp at hk;omega
   rcases qb5 (k:=k) (acc:=[wO] ++ l1) (qu9 (32 :: 43 :: 32 :: 40 :: (t ++ [41]))) (by omega)with e3 | e3
   ·rw [e3,show(32 :: 43 :: 32 :: 40 :: (t ++ [41])).dropWhile spB=43 :: 32 :: 40 :: (t ++ [41])from rfl]
    rcases qb5 (k:=k - 1) (acc:=[wO] ++ l1 ++ [(1,[41],0,0)]) (qu24 (40 :: (t ++ [41]))) (by omega)with e4 | e4
    ·rw [e4,show(32 :: 40 :: (t ++ [41])).dropWhile spB=40 :: (t ++ [41])from rfl]
     rcases qb5 (k:=k - 1 - 1) (acc:=[wO] ++ l1 ++ [(1,[41],0,0)] ++ [(5,[43],0,0)]) (qo12 (t ++ [41])) (by omega)with e5 | e5
     ·rw [e5,qd5 spB 41 sp41 [] t]
      rcases qf17 [] ([wO] ++ l1 ++ [(1,[41],0,0)] ++ [(5,[43],0,0)] ++ [wO]) t.length (k - 1 - 1 - 1) (t.dropWhile spB) [] l2 d2 za6 (drop_drop t) (fun _=>qc10 _) k2 with ⟨q,hq,e6⟩ | e6
      ·rw [List.append_nil]at e6;rw [show((1,[40],0,0):Wd)=wO from rfl,e6]
       rcases qb5 (k:=q) (acc:=[wO] ++ l1 ++ [(1,[41],0,0)] ++ [(5,[43],0,0)] ++ [wO] ++ l2) (qu9 []) (by omega)with e7 | e7
       ·left;rw [e7,List.dropWhile_nil,qm21];simp [wO,wC,wP]
       ·right;exact e7
      ·right;rw [List.append_nil]at e6;exact e6
     ·right;exact e5
    ·right;exact e4
   ·right;exact e3
  ·right;rw [List.append_nil]at e2;exact e2
 ·right;exact e
end Go.Proofs.YtocdckniokhbbaaGreatDoor.BrkA
