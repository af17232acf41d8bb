import Derived.Test.YtocdckniokhbbaaGreatDoorZrZz
import Derived.Test.YtocdckniokhbbaaGreatDoorZrSynD
set_option linter.unusedVariables false
set_option linter.unusedSimpArgs false
open Bool renaming and_eq_true→AK,false_eq_true→AR
open List renaming cons_append→AJ,length_append→Aq,length_cons→AE,append_assoc→A9,nil_append→AN,length_nil→AY
open Option renaming bind_some→Ay
namespace Go.Proofs.YtocdckniokhbbaaGreatDoor.Syn
open LexA
def Fol (j:Nat):List Wd→Prop
 | []=>True
 | w :: _=>(w.1=1∧(w.2.1= [41]∨w.2.1= [93]∨w.2.1= [44]))∨(w.1=5∧(below j).contains w.2.1=true)
theorem Fol.le {j k:Nat} (h:j≤k) {r:List Wd} (hf:Fol j r):Fol k r:=by
 cases r with
 | nil=>trivial
 | cons w r=>
  rcases hf with hf | ⟨h1,h2⟩
  ·exact .inl hf
  ·exact .inr ⟨h1,ql17 h _ h2⟩
theorem qx14 {x:List UInt8} (h:(below 7).contains x=true):x≠ [47]∧x≠ [47,47]:=by
 constructor
 ·rintro rfl;exact absurd h (by decide)
 ·rintro rfl;exact absurd h (by decide)
theorem Fol.bars {r:List Wd} (hf:Fol 7 r):isW 1 [91] r=false∧isW 5 [47] r=false∧isW 5 [47,47] r=false∧qi4 r=false:=by
 cases r with
 | nil=>exact⟨rfl,rfl,rfl,rfl⟩
 | cons w r=>
  rcases hf with ⟨h1,h2⟩ | ⟨h5,h2⟩
  ·have e:qi4 (w :: r)=false:=by
    unfold qi4;simp only [ofW,isW,h1]
    rcases h2 with h | h | h<;>rw [h]<;>decide
   refine⟨?_,ql3 h1 (by omega),ql3 h1 (by omega),e⟩;simp only [isW,h1]
   rcases h2 with h | h | h<;>rw [h]<;>decide
  ·obtain⟨a,b⟩:=qx14 h2;refine⟨ql3 h5 (by omega),by simp [isW,a],by simp [isW,b],?_⟩;unfold qi4;simp only [ofW,isW,h5];simp
theorem Fol.none {k:Nat} (hk:k<6) {r:List Wd} (hf:Fol k r):qv15 k r=none:=by
 cases r with
 | nil=>rfl
 | cons w r=>
  simp only [qv15]
  split
  ·rename_i h5
   rcases hf with ⟨h1,_⟩ | ⟨_,h2⟩
   ·rw [h1]at h5;exact absurd h5 (by decide)
   ·cases hq:(qy1 k).find? (fun o=>o.1 == w.2.1)with
    | none=>rfl
    | some q=>
     have:=qd14 k hk _ (qs15 hk hq).1;rw [this]at h2
     cases h2
  ·rfl
theorem Fol.bar {r:List Wd} (hf:Fol 6 r):takeW 5 [124] r=Option.none:=by
 rw [take_none]
 cases r with
 | nil=>rfl
 | cons w r=>
  rcases hf with ⟨h1,_⟩ | ⟨h1,h2⟩
  ·exact ql3 h1 (by omega)
  ·have:w.2.1≠ [124]:=by intro h;rw [h]at h2;exact absurd h2 (by decide)
   simp [isW,this]
theorem Fol.close {j:Nat} {c:Wd} {r:List Wd} (h1:c.1=1) (h2:c.2.1= [41]∨c.2.1= [93]∨c.2.1= [44]):Fol j (c :: r):= .inl ⟨h1,h2⟩
theorem qg8 {ops:List (List UInt8)}:∀ {l:List Wd} {pe:Bool} {n:Int} {k:Nat} {a:Option Nat} {i:Nat},qx5 ops pe n k a l=some i→a=some i∨ ∃ u w v,l=u ++ w :: v∧i=k+u.length∧w.1=5∧ops.contains w.2.1=true
 | [],pe,n,k,a,i,h=> .inl h
 | w :: l,pe,n,k,a,i,h=>by
  simp only [qx5]at h
  rcases qg8 h with h1 | ⟨u,x,v,rfl,h2,h3⟩
  ·split at h1
   ·rename_i hc
    cases h1
    exact .inr ⟨[],w,l,rfl,rfl,hc.2.1,hc.2.2.2⟩
   ·exact .inl h1
  ·exact .inr ⟨w :: u,x,v,rfl,za6,h3⟩
def J:List (List Wd)→List Wd→Prop
 | [],_=>False
 | [p],l=>l=p
 | p :: q :: ps,l=>∃ w l',l=p ++ w :: l'∧w.1=1∧w.2.1= [44]∧J (q :: ps) l'
theorem qe12:∀ (l:List Wd) (n:Int) (cur:List Wd),∃ q ps,qc4 n cur l=q :: ps
 | [],n,cur=>⟨cur,[],rfl⟩
 | w :: l,n,cur=>by
  simp only [qc4]
  split
  ·exact⟨_,_,rfl⟩
  ·exact qe12 l _ _
theorem qn15:∀ (l:List Wd) (n:Int) (cur:List Wd),J (qc4 n cur l) (cur ++ l)
 | [],n,cur=>by simp [qc4,J]
 | w :: l,n,cur=>by
  simp only [qc4]
  split
  ·rename_i hc
   obtain⟨q,ps,hq⟩:=qe12 l (nx n w) [];have:=qn15 l (nx n w) [];rw [hq]at this ⊢;have h2:=hc.2;simp only [AK,beq_iff_eq]at h2;exact⟨w,l,rfl,h2.1,h2.2,this⟩
  ·have:=qn15 l (nx n w) (cur ++ [w]);simpa using this
theorem qi14 {o v:Wd} {inner l:List Wd} {tt:Nat} (ho:qw1 o=true) (h:qp1 [] 0 (o :: (v :: inner ++ l))=some tt) (ht:tt=1+(v :: inner).length):qf1 v=false:=by
 cases hc:qf1 v with
 | false=>rfl
 | true=>
  simp only [AJ,qp1]at h;rw [if_pos ho,if_neg (by rw [qk8 hc];simp),if_pos hc]at h
  split at h
  ·cases h
  ·simp at h;simp at ht;omega
structure AllB (m:Nat):Prop where
 orC:∀ {l:List Wd} {k:Nat} {e:Ex},k<6→rOr m l k=some e→ ∀ (rest:List Wd) (R:Option (Ex × List Wd)) (c:Nat),Fol (k+1) rest→(∀ n,c≤n→qy3 n k e rest=R)→ ∀ n,c+80*l.length+55 - 2*k≤n→ql2 n k (l ++ rest)=R
 or:∀ {l:List Wd} {k:Nat} {e:Ex},k≤6→rOr m l k=some e→ ∀ (rest:List Wd) n,Fol k rest→80*l.length+56 - 2*k≤n→ql2 n k (l ++ rest)=some (e,rest)
 signed:∀ {l:List Wd} {e:Ex},qw4 m l=some e→ ∀ (rest:List Wd) n,Fol 6 rest→80*l.length+43≤n→qe3 n (l ++ rest)=some (e,rest)
 unionC:∀ {l:List Wd} {e:Ex},qx3 m l=some e→ ∀ (rest:List Wd) (R:Option (Ex × List Wd)) (c:Nat),Fol 7 rest→(∀ n,c≤n→qq3 n e rest=R)→ ∀ n,c+80*l.length+41≤n→qe4 n (l ++ rest)=R
 path:∀ {l:List Wd} {e:Ex},qw10 m l=some e→ ∀ (rest:List Wd) n,Fol 7 rest→80*l.length+40≤n→qm4 n (l ++ rest)=some (e,rest)
 loc:∀ {l:List Wd} {e:Ex},l≠ []→qe23 m l=some e→ ∀ (rest:List Wd) n,Fol 7 rest→80*l.length+39≤n→qk18 n (l ++ rest)=some (e,rest)
 steps:∀ {l:List Wd} {ss:List St},qn2 m l=some ss→ ∀ (acc:List St) (rest:List Wd) n,Fol 7 rest→80*l.length+37≤n→qd2 n acc (l ++ rest)=some (acc ++ ss,rest)
 step:∀ {l l2:List Wd} {s:St},qw7 m l=some (s,l2)→ ∃ u,l=u ++ l2∧u≠ []∧ ∀ (rest:List Wd) n,isW 1 [91] rest=false→80*u.length+36≤n→qc2 n (u ++ rest)=some (s,rest)
 prim:∀ {l l2:List Wd} {e:Ex},qj5 m l=some (e,l2)→ ∃ u,l=u ++ l2∧u≠ []∧ ∀ (rest:List Wd) n,80*u.length+36≤n→qu3 n (u ++ rest)=some (e,rest)
 preds:∀ {l l2:List Wd} {ps:List Ex},qf5 m l=some (ps,l2)→ ∃ u,l=u ++ l2∧ ∀ (acc:List Ex) (rest:List Wd) n,isW 1 [91] rest=false→80*u.length+36≤n→qm1 n acc (u ++ rest)=some (acc ++ ps,rest)
 args:∀ {p:List Wd} {ps:List (List Wd)} {es:List Ex} {l:List Wd},qk12 m (p :: ps)=some es→J (p :: ps) l→ ∃ e0 es' l1,es=e0 :: es'∧l=p ++ l1∧(∀ r,Fol 0 r→Fol 0 (l1 ++ r)) ∧
  (∀ (rest:List Wd) n,Fol 0 rest→80*p.length+56≤n→ql2 n 0 (p ++ rest)=some (e0,rest))∧ ∀ (acc:List Ex) (rest:List Wd) n,Fol 0 rest→isW 1 [44] rest=false→80*l1.length+2≤n→qk5 n acc (l1 ++ rest)=some (acc ++ es',rest)
theorem ql23 {m:Nat} {l:List Wd} {e:Ex} (h:qx3 m l=some e):l≠ []:=by
 rintro rfl
 cases m with
 | zero=>cases h
 | succ m=>
  cases m with
  | zero=>cases h
  | succ m=>cases h
theorem qz5 {m:Nat} {l:List Wd} {ss:List St} (h:qn2 m l=some ss):l= []∨isW 5 [47] l=true∨isW 5 [47,47] l=true:=by
 cases m with
 | zero=>cases h
 | succ m=>
  simp only [qn2]at h
  split at h
  ·rename_i hc;exact .inl (by simpa using hc)
  ·split at h
   ·rename_i hc;exact .inr (.inl hc)
   ·split at h
    ·rename_i hc;exact .inr (.inr hc)
    ·cases h
theorem qx12 {l rest:List Wd} (h:l= []∨isW 5 [47] l=true∨isW 5 [47,47] l=true) (hf:Fol 7 rest):isW 1 [91] (l ++ rest)=false:=by
 rcases h with rfl | h | h
 ·exact hf.bars.1
 ·obtain⟨w,v,rfl,w1,_⟩:=qq2 h;exact ql3 w1 (by omega)
 ·obtain⟨w,v,rfl,w1,_⟩:=qq2 h;exact ql3 w1 (by omega)
section
variable {m:Nat} (ih:AllB m)
include ih
theorem b_or6 {l:List Wd} {k:Nat} {e:Ex} (hk:k=6) (h:rOr (m+1) l k=some e) (rest:List Wd) (n:Nat) (hf:Fol k rest) (hn:80*l.length+56 - 2*k≤n):ql2 n k (l ++ rest)=some (e,rest):=by
 subst hk;simp only [rOr]at h;rw [if_pos (by omega)]at h;obtain⟨n,rfl⟩:∃ q,n=q+1:=⟨n - 1,by omega⟩;simp only [ql2];rw [if_pos (by omega)];exact ih.signed h rest n hf (by omega)
theorem b_orC {l:List Wd} {k:Nat} {e:Ex} (hk:k<6) (h:rOr (m+1) l k=some e) (rest:List Wd) (R:Option (Ex × List Wd)) (c:Nat) (hf:Fol (k+1) rest) (hR:∀ n,c≤n→qy3 n k e rest=R) (n:Nat) (hn:c+80*l.length+55 - 2*k≤n):ql2 n k (l ++ rest)=R:=by
 simp only [rOr]at h;rw [if_neg (by omega)]at h
 cases hl:qx5 (qz4 k) false 0 0 none l with
 | none=>
  rw [hl]at h;simp only []at h;obtain⟨n,rfl⟩:∃ q,n=q+1:=⟨n - 1,by omega⟩;simp only [ql2];rw [if_neg (by omega),ih.or (by omega) h rest n hf (by omega)];exact hR n (by omega)
 | some i=>
  rw [hl]at h;simp only []at h;obtain⟨a,h1,h2⟩:=ql h;obtain⟨b,h3,h4⟩:=ql h2
  cases h4
  rcases qg8 hl with h5 | ⟨u,w,v,rfl,h6,w5,wc⟩
  ·cases h5
  ·rw [Nat.zero_add]at h6;subst h6;rw [show(u ++ w :: v).take u.length=u by simp]at h1;rw [show(u ++ w :: v).drop (u.length+1)=v by simp]at h3;rw [show(u ++ w :: v)[u.length]?=some w by simp]at hR;simp only [Option.getD_some]at hR;rw [Aq,AE]at hn;rw [A9];refine ih.orC hk h1 (w :: v ++ rest) R (c+80*v.length+55 - 2*k) (.inr ⟨w5,qv7 k hk _ wc⟩) (fun q hq=>?_) n (by omega);obtain⟨q,rfl⟩:∃ p,q=p+1:=⟨q - 1,by omega⟩
   have ho:qv15 k (w :: v ++ rest)=some (qw25 w.2.1,v ++ rest):=by
    simp only [AJ,qv15,w5,BEq.rfl,if_true]
    cases hq:(qy1 k).find? (fun o=>o.1 == w.2.1)with
    | none=>
     exfalso;rw [List.find?_eq_none]at hq;unfold qz4 at wc;rw [List.contains_eq_any_beq,List.any_eq_true]at wc;obtain⟨x,hx,hxe⟩:=wc;obtain⟨y,hy,rfl⟩:=List.mem_map.1 hx;have:=hq y hy;rw [beq_iff_eq]at hxe;rw [hxe]at this;simp at this
    | some o=>
     have:=(qs15 hk hq).2.1;rw [this];rfl
   simp only [qy3,ho];rw [ih.or (by omega) h3 rest q hf (by omega)];exact hR q (by omega)
theorem qq26 {l:List Wd} {e:Ex} (h:qw4 (m+1) l=some e) (rest:List Wd) (n:Nat) (hf:Fol 6 rest) (hn:80*l.length+43≤n):qe3 n (l ++ rest)=some (e,rest):=by
 obtain⟨n,rfl⟩:∃ q,n=q+1:=⟨n - 1,by omega⟩;simp only [qw4]at h;simp only [qe3]
 cases ht:takeW 5 [45] l with
 | some r1=>
  rw [ht]at h;obtain⟨a,h1,h2⟩:=ql h
  cases h2
  obtain⟨w,rfl,w5,w2⟩:=qv ht;rw [AE]at hn;rw [AJ,take_of _ w5 w2];simp only [];rw [ih.signed h1 rest n hf (by omega)];rfl
 | none=>
  rw [ht]at h;simp only []at h;have hne:=ql23 h;rw [take_none.2 (by rw [qi3 hne];exact take_none.1 ht)];refine ih.unionC h rest _ 1 (hf.le (by omega)) (fun q hq=>?_) n (by omega);obtain⟨q,rfl⟩:∃ p,q=p+1:=⟨q - 1,by omega⟩;simp only [qq3,hf.bar]
theorem qp26 {l:List Wd} {e:Ex} (h:qx3 (m+1) l=some e) (rest:List Wd) (R:Option (Ex × List Wd)) (c:Nat) (hf:Fol 7 rest) (hR:∀ n,c≤n→qq3 n e rest=R) (n:Nat) (hn:c+80*l.length+41≤n):qe4 n (l ++ rest)=R:=by
 simp only [qx3]at h
 cases hl:qx5 [[124]] false 0 0 none l with
 | none=>
  rw [hl]at h;simp only []at h;obtain⟨n,rfl⟩:∃ q,n=q+1:=⟨n - 1,by omega⟩;simp only [qe4];rw [ih.path h rest n hf (by omega)];exact hR n (by omega)
 | some i=>
  rw [hl]at h;simp only []at h;obtain⟨a,h1,h2⟩:=ql h;obtain⟨b,h3,h4⟩:=ql h2
  cases h4
  rcases qg8 hl with h5 | ⟨u,w,v,rfl,h6,w5,wc⟩
  ·cases h5
  ·rw [Nat.zero_add]at h6;subst h6;rw [show(u ++ w :: v).take u.length=u by simp]at h1;rw [show(u ++ w :: v).drop (u.length+1)=v by simp]at h3;rw [Aq,AE]at hn;have w2:w.2.1= [124]:=by simpa using wc
   rw [A9];refine ih.unionC h1 (w :: v ++ rest) R (c+80*v.length+41) (.inr ⟨w5,by rw [w2];decide⟩) (fun q hq=>?_) n (by omega);obtain⟨q,rfl⟩:∃ p,q=p+1:=⟨q - 1,by omega⟩;simp only [AJ,qq3,take_of _ w5 w2];rw [ih.path h3 rest q hf (by omega)];exact hR q (by omega)
theorem b_path {l:List Wd} {e:Ex} (h:qw10 (m+1) l=some e) (rest:List Wd) (n:Nat) (hf:Fol 7 rest) (hn:80*l.length+40≤n):qm4 n (l ++ rest)=some (e,rest):=by
 obtain⟨n,rfl⟩:∃ q,n=q+2:=⟨n - 2,by omega⟩;simp only [qw10]at h
 split at h
 ·cases h
 ·rename_i hne
  have hne:l≠ []:=by simpa using hne
  simp only [qm4];rw [qu4 hne]
  split at h
  ·rename_i hb
   obtain⟨⟨x,l1⟩,h1,h2⟩:=ql h;obtain⟨⟨ps,l2⟩,h3,h4⟩:=ql h2;obtain⟨u1,rfl,n1,m1⟩:=ih.prim h1;obtain⟨u2,h5,m2⟩:=ih.preds h3;simp only []at h4 h5;subst h5;simp only [Aq]at hn;rw [hb];simp only [if_true,qm3];rw [show u1 ++ (u2 ++ l2) ++ rest=u1 ++ (u2 ++ (l2 ++ rest)) by simp,m1 _ n (by omega),Ay]
   split at h4
   ·rename_i he
    have he:l2= []:=by simpa using he
    subst he
    cases h4
    simp only [AN];rw [m2 [] _ n hf.bars.1 (by omega)];simp only [Ay,AN];rw [hf.bars.2.1,hf.bars.2.2.1];rfl
   ·rename_i he
    have he:l2≠ []:=by simpa using he
    obtain⟨ss,h6,h7⟩:=ql h4
    cases h7
    have hs:=qz5 h6;simp only [];rw [m2 [] _ n (qx12 hs hf) (by omega)];simp only [Ay,AN];rw [qi3 he,qi3 he,if_neg (by rcases hs with h | h | h;exact absurd h he;rw [h];simp;rw [h];simp),ih.steps h6 [] rest (n+1) hf (by omega)];rfl
  ·rename_i hb
   rw [if_neg hb];exact ih.loc hne h rest (n+1) hf (by omega)
theorem qy22 {l:List Wd} {ss:List St} {m':Nat} (hm:m=m'+1) (ihs:AllB m') {w:Wd} (w5:w.1=5) (w2:w.2.1= [47]) (hne:l≠ []) (h:qn2 m (w :: l)=some ss) (rest:List Wd) (n:Nat) (hf:Fol 7 rest) (hn:80*l.length+38≤n):((qc2 n (l ++ rest)).bind fun x=>qd2 n [x.1] x.2)=some (ss,rest):=by
 subst hm;simp only [qn2]at h;rw [if_neg (by simp),if_pos (qz9 _ w5 w2),List.tail_cons]at h;obtain⟨⟨s,l2⟩,h1,h2⟩:=ql h;obtain⟨ss',h3,h4⟩:=ql h2
 cases h4
 have h3:qn2 m' l2=some ss':=h3;obtain⟨u,rfl,hu,hm⟩:=ihs.step h1;rw [Aq]at hn;rw [A9,hm _ n (qx12 (qz5 h3) hf) (by omega),Ay];exact ihs.steps h3 [s] rest n hf (by omega)
theorem b_steps {l:List Wd} {ss:List St} (h:qn2 (m+1) l=some ss) (acc:List St) (rest:List Wd) (n:Nat) (hf:Fol 7 rest) (hn:80*l.length+37≤n):qd2 n acc (l ++ rest)=some (acc ++ ss,rest):=by
 obtain⟨n,rfl⟩:∃ q,n=q+1:=⟨n - 1,by omega⟩;simp only [qn2]at h;simp only [qd2]
 split at h
 ·rename_i hc
  have hc:l= []:=by simpa using hc
  subst hc
  cases h
  rw [AN,take_none.2 hf.bars.2.1,take_none.2 hf.bars.2.2.1];simp
 ·split at h
  ·rename_i hc
   obtain⟨⟨s,l2⟩,h1,h2⟩:=ql h;obtain⟨ss',h3,h4⟩:=ql h2
   cases h4
   obtain⟨w,v,rfl,w5,w2⟩:=qq2 hc;rw [List.tail_cons]at h1;have h3:qn2 m l2=some ss':=h3;obtain⟨u,rfl,hu,hm⟩:=ih.step h1;simp only [AE,Aq]at hn;rw [AJ,take_of _ w5 w2];simp only [];rw [A9,hm _ n (qx12 (qz5 h3) hf) (by omega),Ay,ih.steps h3 _ rest n hf (by omega)];simp
  ·rename_i hc1
   split at h
   ·rename_i hc
    obtain⟨⟨s,l2⟩,h1,h2⟩:=ql h;obtain⟨ss',h3,h4⟩:=ql h2
    cases h4
    obtain⟨w,v,rfl,w5,w2⟩:=qq2 hc;rw [List.tail_cons]at h1;have h3:qn2 m l2=some ss':=h3;obtain⟨u,rfl,hu,hm⟩:=ih.step h1;simp only [AE,Aq]at hn;rw [AJ,take_none.2 (by simp [isW,w2]),take_of _ w5 w2];simp only [];rw [A9,hm _ n (qx12 (qz5 h3) hf) (by omega),Ay,ih.steps h3 _ rest n hf (by omega)];simp
   ·cases h
omit ih in
theorem qk16 {s t:List UInt8} (hs:s= [40]∧t= [41]∨s= [91]∧t= [93]) {o:Wd} {r:List Wd} {tt:Nat} (o1:o.1=1) (o2:o.2.1=s) (h:qp1 [] 0 (o :: r)=some tt) :
  ∃ inner c l',r=inner ++ c :: l'∧tt=inner.length+1∧c.1=1∧c.2.1=t∧(inner≠ []→isW 1 [41] inner=false):=by
 have ho:qw1 o=true:=qw5 o1 o2 (hs.elim (fun h=> .inl h.1) (fun h=> .inr h.1));obtain⟨inner,c,l',rfl,h1,h2,h3⟩:=qh14 ho h;have c1:c.1=1:=by unfold qf1 at h3;simp at h3;exact h3.1
 refine⟨inner,c,l',rfl,by omega,c1,by rw [h2,o2];rcases hs with ⟨rfl,rfl⟩ | ⟨rfl,rfl⟩<;>rfl,fun hi=>?_⟩
 cases inner with
 | nil=>exact absurd rfl hi
 | cons v inner=>
  have:=qi14 ho h h1
  cases hq:isW 1 [41] (v :: inner)with
  | false=>rfl
  | true=>
   simp only [isW,AK,beq_iff_eq]at hq;rw [qb4 hq.1 hq.2 (.inl rfl)]at this
   cases this
theorem b_preds {l l2:List Wd} {ps:List Ex} (h:qf5 (m+1) l=some (ps,l2)):∃ u,l=u ++ l2∧ ∀ (acc:List Ex) (rest:List Wd) n,isW 1 [91] rest=false→80*u.length+36≤n→qm1 n acc (u ++ rest)=some (acc ++ ps,rest):=by
 simp only [qf5]at h
 split at h
 ·rename_i hc
  obtain⟨o,r,rfl,o1,o2⟩:=qq2 hc
  cases hp:qp1 [] 0 (o :: r)with
  | none=>rw [hp]at h;cases h
  | some tt=>
   rw [hp]at h;simp only []at h;obtain⟨e,h1,h2⟩:=ql h;obtain⟨⟨qs,l3⟩,h3,h4⟩:=ql h2
   cases h4
   obtain⟨inner,c,l',rfl,rfl,c1,c2,_⟩:=qk16 (.inr ⟨rfl,rfl⟩) o1 o2 hp;rw [qc12]at h1;rw [qy12]at h3;obtain⟨u,rfl,hm⟩:=ih.preds h3;refine⟨o :: (inner ++ c :: u),by simp,fun acc rest n hr hn=>?_⟩;simp only [AE,Aq]at hn;obtain⟨n,rfl⟩:∃ q,n=q+1:=⟨n - 1,by omega⟩;simp only [AJ,A9,qm1,take_of _ o1 o2];rw [ih.or (by omega) h1 (c :: (u ++ rest)) n (.close c1 (.inr (.inl c2))) (by omega)];simp only [Ay,take_of _ c1 c2];rw [hm _ rest n hr (by omega)];simp
 ·cases h
  refine⟨[],rfl,fun acc rest n hr hn=>?_⟩;obtain⟨n,rfl⟩:∃ q,n=q+1:=⟨n - 1,by omega⟩;simp only [AN,qm1,take_none.2 hr];simp
theorem b_args {p:List Wd} {ps:List (List Wd)} {es:List Ex} {l:List Wd} (h:qk12 (m+1) (p :: ps)=some es) (hj:J (p :: ps) l):∃ e0 es' l1,es=e0 :: es'∧l=p ++ l1∧(∀ r,Fol 0 r→Fol 0 (l1 ++ r)) ∧
  (∀ (rest:List Wd) n,Fol 0 rest→80*p.length+56≤n→ql2 n 0 (p ++ rest)=some (e0,rest))∧ ∀ (acc:List Ex) (rest:List Wd) n,Fol 0 rest→isW 1 [44] rest=false→80*l1.length+2≤n→qk5 n acc (l1 ++ rest)=some (acc ++ es',rest):=by
 simp only [qk12]at h;obtain⟨e0,h1,h2⟩:=ql h;obtain⟨es',h3,h4⟩:=ql h2
 cases h4
 have hb:=fun (rest:List Wd) n (hf:Fol 0 rest) (hn:80*p.length+56≤n)=>ih.or (by omega) h1 rest n hf (by omega)
 cases ps with
 | nil=>
  have hl:l=p:=hj;subst hl;refine⟨e0,es',[],rfl,by simp,fun r hr=>hr,hb,fun acc rest n hf hr hn=>?_⟩
  cases m with
  | zero=>cases h3
  | succ m=>
   cases h3
   obtain⟨n,rfl⟩:∃ q,n=q+1:=⟨n - 1,by omega⟩;simp only [AN,qk5,take_none.2 hr];simp
 | cons q ps=>
  obtain⟨w,l',rfl,w1,w2,hj'⟩:=hj;obtain⟨e1,es'',l1,rfl,rfl,hF,hb1,ha⟩:=ih.args h3 hj';refine⟨e0,e1 :: es'',w :: (q ++ l1),rfl,rfl,fun r hr=> .inl ⟨w1,.inr (.inr w2)⟩,hb,fun acc rest n hf hr hn=>?_⟩;simp only [AE,Aq]at hn;obtain⟨n,rfl⟩:∃ q,n=q+1:=⟨n - 1,by omega⟩;simp only [AJ,A9,qk5,take_of _ w1 w2];rw [hb1 (l1 ++ rest) n (hF rest hf) (by omega),Ay];simp only [];rw [ha _ rest n hf hr (by omega)];simp
theorem b_prim {l l2:List Wd} {e:Ex} (h:qj5 (m+1) l=some (e,l2)):∃ u,l=u ++ l2∧u≠ []∧ ∀ (rest:List Wd) n,80*u.length+36≤n→qu3 n (u ++ rest)=some (e,rest):=by
 cases l with
 | nil=>cases h
 | cons w r=>
  simp only [qj5]at h
  have leaf:∀ e',(∀ rest n,qu3 (n+1) (w :: rest)=some (e',rest))→some (e',r)=some (e,l2)→ ∃ u,w :: r=u ++ l2∧u≠ []∧ ∀ (rest:List Wd) n,80*u.length+36≤n→qu3 n (u ++ rest)=some (e,rest):=by
   intro e' hr hq
   cases hq
   refine⟨[w],rfl,by simp,fun rest n hn=>?_⟩;obtain⟨n,rfl⟩:∃ q,n=q+1:=⟨n - 1,by simp at hn;omega⟩;exact hr rest n
  by_cases h10:w.1=10
  ·rw [if_pos (by simp [h10])]at h;exact leaf _ (fun rest n=>by simp [qu3,h10]) h
  rw [if_neg (by simp [h10])]at h;by_cases h8:w.1=8
  ·rw [if_pos (by simp [h8])]at h;exact leaf _ (fun rest n=>by simp [qu3,h8]) h
  rw [if_neg (by simp [h8])]at h;by_cases h9:w.1=9
  ·rw [if_pos (by simp [h9])]at h;exact leaf _ (fun rest n=>by simp [qu3,h9]) h
  rw [if_neg (by simp [h9])]at h;by_cases h6:w.1=6
  ·rw [if_pos (by simp [h6])]at h
   split at h
   ·rename_i hc
    obtain⟨o,r0,rfl,o1,o2⟩:=qq2 hc
    cases hp:qp1 [] 0 (o :: r0)with
    | none=>rw [hp]at h;cases h
    | some tt=>
     rw [hp]at h;simp only []at h;obtain⟨inner,c,l',rfl,rfl,c1,c2,hin⟩:=qk16 (.inl ⟨rfl,rfl⟩) o1 o2 hp
     split at h
     ·rename_i h0
      have h0:inner= []:=List.eq_nil_of_length_eq_zero (by omega);subst h0
      cases h
      refine⟨[w,o,c],by simp,by simp,fun rest n hn=>?_⟩;obtain⟨n,rfl⟩:∃ q,n=q+2:=⟨n - 2,by simp at hn;omega⟩;simp only [AJ,AN,qu3];rw [if_neg (by simp [h10]),if_neg (by simp [h8]),if_neg (by simp [h9]),if_pos (by simp [h6])];simp only [qw8,take_of _ o1 o2,Ay,take_of _ c1 c2]
     ·rename_i h0
      have hi:inner≠ []:=by rintro rfl;exact h0 rfl
      obtain⟨ks,h1,h2⟩:=ql h
      cases h2
      rw [qc12]at h1;obtain⟨q,ps,hq⟩:=qe12 inner 0 [];have hj:=qn15 inner 0 [];rw [hq]at h1 hj;obtain⟨e0,es,l1,rfl,hl,hF,hb1,ha⟩:=ih.args h1 hj;rw [AN]at hl;refine⟨w :: o :: (inner ++ [c]),by rw [qy12];simp,by simp,fun rest n hn=>?_⟩;simp only [AE,Aq,AY]at hn;obtain⟨n,rfl⟩:∃ q,n=q+2:=⟨n - 2,by omega⟩;have hll:=congrArg List.length hl;rw [Aq]at hll;simp only [AJ,A9,AN,qu3];rw [if_neg (by simp [h10]),if_neg (by simp [h8]),if_neg (by simp [h9]),if_pos (by simp [h6])];simp only [qw8,take_of _ o1 o2,Ay];rw [take_none.2 (by rw [qi3 hi];exact hin hi)];simp only [];have hfc:Fol 0 (c :: rest):= .close c1 (.inl c2);rw [hl,A9,hb1 _ n (hF _ hfc) (by omega),Ay];simp only [];rw [ha _ _ n hfc (by simp [isW,c2]) (by omega),Ay];simp only [take_of _ c1 c2,Ay];rfl
   ·cases h
  rw [if_neg (by simp [h6])]at h
  split at h
  ·rename_i hc
   obtain⟨o,r0,hw,o1,o2⟩:=qq2 hc;obtain⟨rfl,rfl⟩:=List.cons.inj hw;clear hw
   cases hp:qp1 [] 0 (w :: r)with
   | none=>rw [hp]at h;cases h
   | some tt=>
    rw [hp]at h;simp only []at h;obtain⟨inner,c,l',rfl,rfl,c1,c2,hin⟩:=qk16 (.inl ⟨rfl,rfl⟩) o1 o2 hp;obtain⟨e1,h1,h2⟩:=ql h
    cases h2
    rw [qc12]at h1;refine⟨w :: (inner ++ [c]),by rw [qy12];simp,by simp,fun rest n hn=>?_⟩;simp only [AE,Aq,AY]at hn;obtain⟨n,rfl⟩:∃ q,n=q+1:=⟨n - 1,by omega⟩;simp only [AJ,A9,AN,qu3];rw [if_neg (by simp [h10]),if_neg (by simp [h8]),if_neg (by simp [h9]),if_neg (by simp [h6]),ih.or (by omega) h1 (c :: rest) n (.close c1 (.inl c2)) (by omega)];simp only [Ay,take_of _ c1 c2]
  ·cases h
theorem b_step {l l2:List Wd} {s:St} (h:qw7 (m+1) l=some (s,l2)):∃ u,l=u ++ l2∧u≠ []∧ ∀ (rest:List Wd) n,isW 1 [91] rest=false→80*u.length+36≤n→qc2 n (u ++ rest)=some (s,rest):=by
 simp only [qw7]at h
 cases h1:takeW 1 [46] l with
 | some r1=>
  rw [h1]at h
  cases h
  obtain⟨w,rfl,w1,w2⟩:=qv h1;refine⟨[w],rfl,by simp,fun rest n hr hn=>?_⟩;obtain⟨n,rfl⟩:∃ q,n=q+1:=⟨n - 1,by simp at hn;omega⟩;simp only [AJ,AN,qc2,take_of _ w1 w2]
 | none=>
  rw [h1]at h;simp only []at h
  cases h2:takeW 1 [46,46] l with
  | some r1=>
   rw [h2]at h
   cases h
   obtain⟨w,rfl,w1,w2⟩:=qv h2;refine⟨[w],rfl,by simp,fun rest n hr hn=>?_⟩;obtain⟨n,rfl⟩:∃ q,n=q+1:=⟨n - 1,by simp at hn;omega⟩;simp only [AJ,AN,qc2,take_of _ w1 w2];rw [take_none.2 (by simp [isW,w1,w2])]
  | none=>
   rw [h2]at h;simp only []at h;obtain⟨⟨a,r1⟩,h3,h4⟩:=ql h;obtain⟨⟨t,r2⟩,h5,h6⟩:=ql h4;obtain⟨⟨ps,r3⟩,h7,h8⟩:=ql h6
   cases h8
   obtain⟨u,rfl,tu,hn,hd,hdd,hh⟩:=qr14 h3 h5;obtain⟨u2,h9,hm⟩:=ih.preds h7;have h9:r2=u2 ++ r3:=h9;subst h9;refine⟨u ++ u2,by simp,by simp [hn],fun rest n hr hq=>?_⟩;rw [Aq]at hq;have hpos:=List.length_pos_iff.2 hn;obtain⟨n,rfl⟩:∃ q,n=q+1:=⟨n - 1,by omega⟩;obtain⟨x,hx1,hx2⟩:=hh (u2 ++ rest);rw [A9];simp only [qc2];rw [take_none.2 (by rw [qi3 hn];exact hd)];simp only [];rw [take_none.2 (by rw [qi3 hn];exact hdd)];simp only [];rw [hx1,Ay];simp only [];rw [hx2,Ay];simp only [];rw [hm [] rest n hr (by omega),Ay];rfl
omit ih in
theorem qm15 {m:Nat} {l:List Wd} {x:St × List Wd} (h:qw7 m l=some x):qi4 l=true:=by
 cases m with
 | zero=>cases h
 | succ m=>
  simp only [qw7]at h;unfold qi4
  cases h1:isW 1 [46] l with
  | true=>simp
  | false=>
   cases h2:isW 1 [46,46] l with
   | true=>simp
   | false=>
    rw [take_none.2 h1]at h;simp only []at h;rw [take_none.2 h2]at h;simp only []at h
    cases h3:isW 1 [64] l with
    | true=>simp
    | false=>
     obtain⟨⟨a,r1⟩,h4,h5⟩:=ql h;obtain⟨⟨t,r2⟩,h6,_⟩:=ql h5;unfold qh8 at h4;rw [take_none.2 h3]at h4
     cases l with
     | nil=>cases h4;cases h6
     | cons w r=>
      simp only []at h4
      split at h4
      ·rename_i h7
       simp [ofW,h7]
      ·cases h4
       simp only [qb3]at h6
       cases e2:w.1 == 2 with
       | true=>simp [ofW,e2]
       | false=>
        cases e3:w.1 == 3 with
        | true=>simp [ofW,e3]
        | false=>
         cases e4:w.1 == 4 with
         | true=>simp [ofW,e4]
         | false=>rw [e2,e3,e4]at h6;cases h6
theorem b_loc {l:List Wd} {e:Ex} (hsm:∀ m',m=m'+1→AllB m') (hne:l≠ []) (h:qe23 (m+1) l=some e) (rest:List Wd) (n:Nat) (hf:Fol 7 rest) (hn:80*l.length+39≤n):qk18 n (l ++ rest)=some (e,rest):=by
 obtain⟨n,rfl⟩:∃ q,n=q+1:=⟨n - 1,by omega⟩;simp only [qe23]at h;simp only [qk18]
 have hmm:∀ {w:Wd} {v:List Wd} {ss:List St},qn2 m (w :: v)=some ss→ ∃ m',m=m'+1:=by
  intro w v ss hq
  cases m with
  | zero=>cases hq
  | succ m=>exact⟨m,rfl⟩
 split at h
 ·rename_i hc
  simp only [Bool.or_eq_true]at hc;by_cases h2:isW 5 [47,47] l=true
  ·rw [qi3 hne,h2];simp only [if_true];have h1:isW 5 [47] l=false:=by obtain⟨w,v,rfl,w5,w2⟩:=qq2 h2;simp [isW,w2]
   split at h
   ·rw [h1]at h;cases h
   ·obtain⟨ss,h3,h4⟩:=ql h
    cases h4
    rw [ih.steps h3 [] rest n hf (by omega)];rfl
  ·rcases hc with hc | hc
   ·obtain⟨w,v,rfl,w5,w2⟩:=qq2 hc;rw [if_neg (by rw [qi3 hne];exact h2),AJ,take_of _ w5 w2];simp only []
    split at h
    ·rename_i hl
     have:v= []:=by simpa using hl
     subst this
     try rw [if_pos hc]at h
     cases h
     rw [AN,hf.bars.2.2.2];rfl
    ·rename_i hl
     have hv:v≠ []:=by intro hv;subst hv;exact hl rfl
     obtain⟨ss,h3,h4⟩:=ql h
     cases h4
     obtain⟨m',hm'⟩:=hmm h3;rw [AE]at hn;have hk:=qy22 ih hm' (hsm m' hm') w5 w2 hv h3 rest n hf (by omega)
     have hst:qi4 (v ++ rest)=true:=by
      subst hm';simp only [qn2]at h3;rw [if_neg (by simp),if_pos (qz9 _ w5 w2),List.tail_cons]at h3;obtain⟨⟨s,l2⟩,h5,_⟩:=ql h3;have:=qm15 h5;unfold qi4 at this ⊢;rw [qq8 hv,qq8 hv,qq8 hv,qq8 hv,qi3 hv,qi3 hv,qi3 hv];exact this
     rw [hst];simp only [Bool.not_true,AR,if_false]
     cases hp:qc2 n (v ++ rest)with
     | none=>rw [hp]at hk;cases hk
     | some x=>
      rw [hp]at hk;simp only [Ay]at hk ⊢;rw [hk];rfl
   ·exact absurd hc h2
 ·rename_i hc
  have h1:isW 5 [47] l=false∧isW 5 [47,47] l=false:=by simpa using hc
  obtain⟨ss,h3,h4⟩:=ql h
  cases h4
  obtain⟨m',hm'⟩:=hmm h3;have hk:=qy22 ih hm' (hsm m' hm') rfl rfl hne h3 rest n hf (by omega);rw [if_neg (by rw [qi3 hne,h1.2];simp),take_none.2 (by rw [qi3 hne];exact h1.1)];simp only []
  cases hp:qc2 n (l ++ rest)with
  | none=>rw [hp]at hk;cases hk
  | some x=>
   rw [hp]at hk;simp only [Ay]at hk ⊢;rw [hk];rfl
end
theorem all_B:∀ m,AllB m∧ ∀ m',m=m'+1→AllB m'
 | 0=>⟨⟨fun _ h=>(by cases h),fun _ h=>(by cases h),fun h=>(by cases h),fun h=>(by cases h),fun h=>(by cases h),fun _ h=>(by cases h),fun h=>(by cases h),fun h=>(by cases h),fun h=>(by cases h),fun h=>(by cases h),fun h=>(by cases h)⟩,fun m' h=>by omega⟩
 | m+1=>by
  obtain⟨ih,ihs⟩:=all_B m;have hC:=fun {l:List Wd} {k:Nat} {e:Ex} (hk:k<6) (h:rOr (m+1) l k=some e)=>b_orC ih hk h;refine⟨⟨hC,fun {l k e} hk h rest n hf hn=>?_,qq26 ih,qp26 ih,b_path ih,fun hne h=>b_loc ih ihs hne h,b_steps ih,b_step ih,b_prim ih,b_preds ih,b_args ih⟩,fun m' h=>Nat.succ.inj h ▸ ih⟩;by_cases h6:k=6
  ·exact b_or6 ih h6 h rest n hf hn
  ·refine hC (by omega) h rest _ 1 (hf.le (by omega)) (fun q hq=>?_) n (by omega);obtain⟨q,rfl⟩:∃ p,q=p+1:=⟨q - 1,by omega⟩;simp only [qy3,hf.none (by omega)]
theorem qf18 (l:List Wd) (e:Ex) (n m:Nat) (hn:80*l.length+60≤n) (hm:80*l.length+60≤m):ql2 n 0 l=some (e,[])↔rOr m l 0=some e:=by
 constructor
 ·intro h;obtain⟨u,hu,_,hk⟩:=(qk3 n).bin (by omega) h;rw [List.append_nil]at hu;subst hu;exact hk m (by omega)
 ·intro h;have:=(all_B m).1.or (by omega) h [] n trivial (by omega)
  rwa [List.append_nil]at this
end Go.Proofs.YtocdckniokhbbaaGreatDoor.Syn
