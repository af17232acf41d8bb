import Derived.Test.YtocdckniokhbbaaGreatDoorZrSynC
set_option linter.unusedVariables false
set_option linter.unusedSimpArgs false
open List renaming length_append→Aq,length_cons→AE,nil_append→AN,length_nil→AY,cons_append→AJ,append_assoc→A9
open Option renaming bind_some→Ay
open Bool renaming false_eq_true→AR
namespace Go.Proofs.YtocdckniokhbbaaGreatDoor.Syn
open LexA
def filt (x:Ex) (ps:List Ex):Ex:=if ps.isEmpty then x else mkW 17 (x :: ps)
structure AllA (n:Nat):Prop where
 bin:∀ {k:Nat} {r:List Wd} {e:Ex} {r':List Wd},k≤6→ql2 n k r=some (e,r')→ ∃ u,r=u ++ r'∧Good k u∧ ∀ m,40*u.length+40 - k≤m→rOr m u k=some e
 loop:∀ {k:Nat} {e0:Ex} {u0 r:List Wd} {e:Ex} {r':List Wd},k<6→Good k u0→(∀ m,40*u0.length+40 - k≤m→rOr m u0 k=some e0)→qy3 n k e0 r=some (e,r') →
  ∃ u,r=u ++ r'∧Good k (u0 ++ u)∧ ∀ m,40*(u0 ++ u).length+40 - k≤m→rOr m (u0 ++ u) k=some e
 signed:∀ {r:List Wd} {e:Ex} {r':List Wd},qe3 n r=some (e,r')→ ∃ u,r=u ++ r'∧Good 6 u∧ ∀ m,40*u.length+33≤m→qw4 m u=some e
 union:∀ {r:List Wd} {e:Ex} {r':List Wd},qe4 n r=some (e,r')→isW 5 [45] r=false→ ∃ u,r=u ++ r'∧Good 6 u∧isW 5 [45] u=false∧ ∀ m,40*u.length+32≤m→qx3 m u=some e
 uloop:∀ {e0:Ex} {u0 r:List Wd} {e:Ex} {r':List Wd},Good 6 u0→(∀ m,40*u0.length+32≤m→qx3 m u0=some e0)→qq3 n e0 r=some (e,r') →
  ∃ u,r=u ++ r'∧Good 6 (u0 ++ u)∧ ∀ m,40*(u0 ++ u).length+32≤m→qx3 m (u0 ++ u)=some e
 path:∀ {r:List Wd} {e:Ex} {r':List Wd},qm4 n r=some (e,r')→ ∃ u,r=u ++ r'∧Tail u∧u≠ []∧ ∀ m,40*u.length+31≤m→qw10 m u=some e
 more:∀ {acc:List St} {r:List Wd} {l:List St} {r':List Wd},qd2 n acc r=some (l,r')→ ∃ u ss,r=u ++ r'∧l=acc ++ ss∧Tail u∧(u= []∨isW 5 [47] u=true∨isW 5 [47,47] u=true)∧(isW 5 [47] r=true∨isW 5 [47,47] r=true→u≠ []) ∧
  ∀ m,40*u.length+29≤m→qn2 m u=some ss
 loc:∀ {r:List Wd} {e:Ex} {r':List Wd},qk18 n r=some (e,r')→ ∃ u,r=u ++ r'∧Tail u∧u≠ []∧ ∀ m,40*u.length+30≤m→qe23 m u=some e
 filter:∀ {r:List Wd} {e:Ex} {r':List Wd},qa2 r=true→qm3 n r=some (e,r')→ ∃ u1 u2 x ps,r=u1 ++ (u2 ++ r')∧e=filt x ps∧Tail u1∧u1≠ []∧Tail u2 ∧
  (∀ rest m,40*u1.length+28≤m→qj5 m (u1 ++ rest)=some (x,rest))∧(∀ rest m,isW 1 [91] rest=false→40*u2.length+27≤m→qf5 m (u2 ++ rest)=some (ps,rest))
 preds:∀ {acc:List Ex} {r:List Wd} {l:List Ex} {r':List Wd},qm1 n acc r=some (l,r')→ ∃ u ps,r=u ++ r'∧l=acc ++ ps∧Tail u ∧
  (∀ rest m,isW 1 [91] rest=false→40*u.length+27≤m→qf5 m (u ++ rest)=some (ps,rest))
 prim:∀ {r:List Wd} {e:Ex} {r':List Wd},qa2 r=true→qu3 n r=some (e,r')→ ∃ u,r=u ++ r'∧Tail u∧u≠ []∧ ∀ rest m,40*u.length+28≤m→qj5 m (u ++ rest)=some (e,rest)
 call:∀ {s:List UInt8} {r:List Wd} {e:Ex} {r':List Wd},qw8 n s r=some (e,r')→ ∃ u,r=u ++ r'∧Tail u∧ ∀ (w:Wd) rest m,w.1=6→w.2.1=s→40*u.length+28≤m→qj5 m (w :: (u ++ rest))=some (e,rest)
 args:∀ {acc:List Ex} {r:List Wd} {l:List Ex} {r':List Wd},qk5 n acc r=some (l,r')→ ∃ u es,r=u ++ r'∧l=acc ++ es∧qk6 [] u=some [] ∧
  ∀ v0 e0,Good 0 v0→(∀ m,40*v0.length+40≤m→rOr m v0 0=some e0)→ ∀ m,40*(v0.length+u.length)+45≤m→qk12 m (qc4 0 [] (v0 ++ u))=some (e0 :: es)
 step:∀ {r:List Wd} {s:St} {r':List Wd},qc2 n r=some (s,r')→ ∃ u,r=u ++ r'∧Tail u∧u≠ []∧ ∀ rest m,isW 1 [91] rest=false→40*u.length+28≤m→qw7 m (u ++ rest)=some (s,rest)
theorem qc12 (o c:Wd) (X rest:List Wd):((o :: (X ++ c :: rest)).take (X.length+1)).drop 1=X:=by simp
theorem qy12 (o c:Wd) (X rest:List Wd):(o :: (X ++ c :: rest)).drop (X.length+1+1)=rest:=by simp [List.drop_append]
section
variable {n:Nat} (ih:AllA n)
include ih
theorem a_bin {k:Nat} {r:List Wd} {e:Ex} {r':List Wd} (hk:k≤6) (h:ql2 (n+1) k r=some (e,r')):∃ u,r=u ++ r'∧Good k u∧ ∀ m,40*u.length+40 - k≤m→rOr m u k=some e:=by
 simp only [ql2]at h;by_cases h6:6≤k
 ·rw [if_pos h6]at h;obtain⟨u,rfl,hg,hm⟩:=ih.signed h;obtain rfl:k=6:=by omega
  refine⟨u,rfl,hg,fun m hq=>?_⟩;obtain⟨m,rfl⟩:∃ q,m=q+1:=⟨m - 1,by omega⟩;simp only [rOr];rw [if_pos (by omega)];exact hm m (by omega)
 ·rw [if_neg h6]at h;obtain⟨⟨e1,r1⟩,h1,h2⟩:=ql h;obtain⟨u0,rfl,hg,hm⟩:=ih.bin (by omega) h1
  have hm0:∀ m,40*u0.length+40 - k≤m→rOr m u0 k=some e1:=by
   intro m hq;obtain⟨m,rfl⟩:∃ q,m=q+1:=⟨m - 1,by omega⟩;simp only [rOr];rw [if_neg h6,qy9 (qv7 k (by omega)) hg.hit];exact hm m (by omega)
  obtain⟨u,rfl,hg',hm'⟩:=ih.loop (by omega) (hg.le (by omega)) hm0 h2;exact⟨u0 ++ u,by simp,hg',hm'⟩
theorem a_loop {k:Nat} {e0:Ex} {u0 r:List Wd} {e:Ex} {r':List Wd} (hk:k<6) (hg:Good k u0) (hm:∀ m,40*u0.length+40 - k≤m→rOr m u0 k=some e0) (h:qy3 (n+1) k e0 r=some (e,r')) :
  ∃ u,r=u ++ r'∧Good k (u0 ++ u)∧ ∀ m,40*(u0 ++ u).length+40 - k≤m→rOr m (u0 ++ u) k=some e:=by
 simp only [qy3]at h
 cases ho:qv15 k r with
 | none=>
  rw [ho]at h
  cases h
  exact⟨[],rfl,by simpa using hg,by simpa using hm⟩
 | some o=>
  rw [ho]at h;obtain⟨⟨e1,r1⟩,h1,h2⟩:=ql h;obtain⟨w,rfl,w5,wc,wk,wn⟩:=qb21 hk ho;obtain⟨v,hv,hgv,hmv⟩:=ih.bin (by omega) h1;have hG:=hg.op hgv w5 wn (qd14 k hk _ wc)
  have hM:∀ m,40*(u0 ++ w :: v).length+40 - k≤m→rOr m (u0 ++ w :: v) k=some (mkW o.1 [e0,e1]):=by
   intro m hq;rw [Aq,AE]at hq;obtain⟨m,rfl⟩:∃ q,m=q+1:=⟨m - 1,by omega⟩;simp only [rOr];rw [if_neg (by omega),qr21 hg hgv w5 wn wc (qv7 k hk)];simp only []
   rw [show(u0 ++ w :: v).take u0.length=u0 by simp,show(u0 ++ w :: v).drop (u0.length+1)=v by simp,hm m (by omega),Ay,hmv m (by omega),Ay,
    show(u0 ++ w :: v)[u0.length]?=some w by simp]
   simp only [Option.getD_some,wk]
  obtain⟨u,rfl,hg',hm'⟩:=ih.loop hk hG hM h2;refine⟨w :: (v ++ u),by rw [hv];simp,by simpa using hg',by simpa using hm'⟩
theorem qz26 {r:List Wd} {e:Ex} {r':List Wd} (h:qe3 (n+1) r=some (e,r')):∃ u,r=u ++ r'∧Good 6 u∧ ∀ m,40*u.length+33≤m→qw4 m u=some e:=by
 simp only [qe3]at h
 cases ht:takeW 5 [45] r with
 | some r1=>
  rw [ht]at h;obtain⟨⟨e1,r2⟩,h1,h2⟩:=ql h
  cases h2
  obtain⟨w,rfl,w5,w2⟩:=qv ht;obtain⟨u,rfl,hg,hm⟩:=ih.signed h1;have hn:=qn12 w5 (by rw [w2];decide);have hp:=qe6 w5;refine⟨w :: u,rfl,⟨by simp,?_,?_,?_⟩,?_⟩
  ·simp only [qk6,hp.1,hp.2.1,AR,if_false];exact hg.bal
  ·simp only [qf3,hp.2.2.2,hn,hg.hit];have:pq (below 6) false w=false:=by unfold pq;rw [w5,w2];decide
   rw [this];rfl
  ·simp only [qn10,hn];exact hg.last
  ·intro m hq;rw [AE]at hq;obtain⟨m,rfl⟩:∃ q,m=q+1:=⟨m - 1,by omega⟩;simp only [qw4,take_of u w5 w2,hm m (by omega),Ay]
 | none=>
  rw [ht]at h;obtain⟨u,rfl,hg,h45,hm⟩:=ih.union h (take_none.1 ht);refine⟨u,rfl,hg,fun m hq=>?_⟩;obtain⟨m,rfl⟩:∃ q,m=q+1:=⟨m - 1,by omega⟩;simp only [qw4,take_none.2 h45];exact hm m (by omega)
theorem a_union {r:List Wd} {e:Ex} {r':List Wd} (h:qe4 (n+1) r=some (e,r')) (h45:isW 5 [45] r=false):∃ u,r=u ++ r'∧Good 6 u∧isW 5 [45] u=false∧ ∀ m,40*u.length+32≤m→qx3 m u=some e:=by
 simp only [qe4]at h;obtain⟨⟨e1,r1⟩,h1,h2⟩:=ql h;obtain⟨u0,rfl,ht,hn,hm⟩:=ih.path h1
 have hm0:∀ m,40*u0.length+32≤m→qx3 m u0=some e1:=by
  intro m hq;obtain⟨m,rfl⟩:∃ q,m=q+1:=⟨m - 1,by omega⟩;simp only [qx3];rw [qy9 (ops:=below 7) (fun x hx=>qh4 hx) (ht.good hn).hit];exact hm m (by omega)
 obtain⟨u,rfl,hg',hm'⟩:=ih.uloop ((ht.good hn).le (by omega)) hm0 h2;refine⟨u0 ++ u,by simp,hg',?_,hm'⟩;rw [qi3 hn]at h45 ⊢;exact h45
theorem a_uloop {e0:Ex} {u0 r:List Wd} {e:Ex} {r':List Wd} (hg:Good 6 u0) (hm:∀ m,40*u0.length+32≤m→qx3 m u0=some e0) (h:qq3 (n+1) e0 r=some (e,r')) :
  ∃ u,r=u ++ r'∧Good 6 (u0 ++ u)∧ ∀ m,40*(u0 ++ u).length+32≤m→qx3 m (u0 ++ u)=some e:=by
 simp only [qq3]at h
 cases ht:takeW 5 [124] r with
 | none=>
  rw [ht]at h
  cases h
  exact⟨[],rfl,by simpa using hg,by simpa using hm⟩
 | some r1=>
  rw [ht]at h;obtain⟨⟨e1,r2⟩,h1,h2⟩:=ql h;obtain⟨w,rfl,w5,w2⟩:=qv ht;obtain⟨v,hv,hgv,hvn,hmv⟩:=ih.path h1;have hgv':=hgv.good hvn;have wn:w.2.1≠ [47]:=by rw [w2];decide
  have hG:=hg.op hgv' w5 wn (by rw [w2];decide)
  have hM:∀ m,40*(u0 ++ w :: v).length+32≤m→qx3 m (u0 ++ w :: v)=some (mkW 14 [e0,e1]):=by
   intro m hq;rw [Aq,AE]at hq;obtain⟨m,rfl⟩:∃ q,m=q+1:=⟨m - 1,by omega⟩;simp only [qx3];rw [qr21 (j:=6) hg hgv' w5 wn (by rw [w2];decide) (fun x hx=>qh4 hx)];simp only [];rw [show(u0 ++ w :: v).take u0.length=u0 by simp,show(u0 ++ w :: v).drop (u0.length+1)=v by simp,hm m (by omega),Ay,hmv m (by omega),Ay]
  obtain⟨u,rfl,hg',hm'⟩:=ih.uloop hG hM h2;refine⟨w :: (v ++ u),by rw [hv];simp,by simpa using hg',by simpa using hm'⟩
theorem a_path {r:List Wd} {e:Ex} {r':List Wd} (h:qm4 (n+1) r=some (e,r')):∃ u,r=u ++ r'∧Tail u∧u≠ []∧ ∀ m,40*u.length+31≤m→qw10 m u=some e:=by
 simp only [qm4]at h
 cases hb:qa2 r with
 | true=>
  rw [hb]at h;simp only [if_true]at h;obtain⟨⟨e1,r1⟩,h1,h2⟩:=ql h;obtain⟨u1,u2,x,ps,rfl,he,t1,hn1,t2,hm1,hm2⟩:=ih.filter hb h1;simp only []at h2;rw [qu4 hn1]at hb
  cases hc:(!isW 5 [47] r1 && !isW 5 [47,47] r1)with
  | true=>
   rw [hc]at h2
   cases h2
   refine⟨u1 ++ u2,by simp,t1.app t2,by simp [hn1],fun m hq=>?_⟩;rw [Aq]at hq;obtain⟨m,rfl⟩:∃ q,m=q+1:=⟨m - 1,by omega⟩;have k2:=hm2 [] m rfl (by omega);rw [List.append_nil]at k2;simp only [qw10];rw [if_neg (by simp [hn1]),if_pos (by rw [qu4 hn1];exact hb),hm1 u2 m (by omega)];simp only [Ay,k2,List.isEmpty_nil,if_true];rw [he];rfl
  | false=>
   rw [hc]at h2;simp only [AR,if_false]at h2;obtain⟨⟨l,r2⟩,h3,h4⟩:=ql h2
   cases h4
   obtain⟨u3,ss,rfl,hl,t3,hs3,hb3,hm3⟩:=ih.more h3
   have hn3:u3≠ []:=hb3 (by
    simp only [Bool.and_eq_false_iff,Bool.not_eq_false']at hc
    exact hc)
   refine⟨u1 ++ (u2 ++ u3),by simp,t1.app (t2.app t3),by simp [hn1],fun m hq=>?_⟩;simp only [Aq]at hq;obtain⟨m,rfl⟩:∃ q,m=q+1:=⟨m - 1,by omega⟩
   have hs:isW 1 [91] u3=false:=by
    rcases hs3 with h | h | h
    ·exact absurd h hn3
    ·obtain⟨w,v,rfl,w1,_⟩:=qq2 h;exact ql3 w1 (by omega)
    ·obtain⟨w,v,rfl,w1,_⟩:=qq2 h;exact ql3 w1 (by omega)
   simp only [qw10];rw [if_neg (by simp [hn1]),if_pos (by rw [qu4 hn1];exact hb),hm1 (u2 ++ u3) m (by omega)];simp only [Ay,hm2 u3 m hs (by omega)];rw [if_neg (by simp [hn3]),hm3 m (by omega),hl,he];rfl
 | false=>
  rw [hb]at h;simp only [AR,if_false]at h;obtain⟨u,rfl,t,hn,hm⟩:=ih.loc h;refine⟨u,rfl,t,hn,fun m hq=>?_⟩;obtain⟨m,rfl⟩:∃ q,m=q+1:=⟨m - 1,by omega⟩;rw [qu4 hn]at hb;simp only [qw10];rw [if_neg (by simp [hn]),if_neg (by rw [hb];simp)];exact hm m (by omega)
theorem a_more {acc:List St} {r:List Wd} {l:List St} {r':List Wd} (h:qd2 (n+1) acc r=some (l,r')):∃ u ss,r=u ++ r'∧l=acc ++ ss∧Tail u∧(u= []∨isW 5 [47] u=true∨isW 5 [47,47] u=true)∧(isW 5 [47] r=true∨isW 5 [47,47] r=true→u≠ []) ∧
  ∀ m,40*u.length+29≤m→qn2 m u=some ss:=by
 simp only [qd2]at h
 have go:∀ (w:Wd) (r1:List Wd) (pre:List St),r=w :: r1→w.1=5→(w.2.1= [47]∧pre= []∨w.2.1= [47,47]∧pre= [anyT])→((qc2 n r1).bind fun x=>qd2 n (acc ++ (pre ++ [x.1])) x.2)=some (l,r') →
   ∃ u ss,r=u ++ r'∧l=acc ++ ss∧Tail u∧(u= []∨isW 5 [47] u=true∨isW 5 [47,47] u=true)∧(isW 5 [47] r=true∨isW 5 [47,47] r=true→u≠ []) ∧
   ∀ m,40*u.length+29≤m→qn2 m u=some ss:=by
  intro w r1 pre hr w5 hw hq;obtain⟨⟨s,r2⟩,h1,h2⟩:=ql hq;obtain⟨u1,rfl,t1,n1,m1⟩:=ih.step h1;obtain⟨u2,ss,h3,hl,t2,s2,_,m2⟩:=ih.more h2;have h3:r2=u2 ++ r':=h3
  have hs:isW 1 [91] u2=false:=by
   rcases s2 with rfl | h | h
   ·rfl
   ·obtain⟨w,v,rfl,w1,_⟩:=qq2 h;exact ql3 w1 (by omega)
   ·obtain⟨w,v,rfl,w1,_⟩:=qq2 h;exact ql3 w1 (by omega)
  refine⟨w :: (u1 ++ u2),pre ++ [s] ++ ss,by rw [hr,h3];simp,by rw [hl];simp,qm17 w5 (hw.elim (fun h=> .inl h.1) (fun h=> .inr h.1)) (t1.app t2) (by simp [n1]),.inr ?_,fun _=>by simp,fun m hm=>?_⟩
  ·rcases hw with ⟨h,_⟩ | ⟨h,_⟩
   ·exact .inl (qz9 _ w5 h)
   ·exact .inr (qz9 _ w5 h)
  ·rw [AE,Aq]at hm;obtain⟨m,rfl⟩:∃ q,m=q+1:=⟨m - 1,by omega⟩;simp only [qn2];rw [if_neg (by simp)]
   rcases hw with ⟨h,rfl⟩ | ⟨h,rfl⟩
   ·rw [if_pos (qz9 _ w5 h),List.tail_cons,m1 u2 m hs (by omega),Ay,m2 m (by omega)];rfl
   ·rw [if_neg (by simp [isW,w5,h]),if_pos (qz9 _ w5 h),List.tail_cons,m1 u2 m hs (by omega),Ay,m2 m (by omega)];rfl
 cases ht:takeW 5 [47] r with
 | some r1=>
  rw [ht]at h;obtain⟨w,hr,w5,w2⟩:=qv ht;exact go w r1 [] hr w5 (.inl ⟨w2,rfl⟩) h
 | none=>
  rw [ht]at h;simp only []at h
  cases ht2:takeW 5 [47,47] r with
  | some r1=>
   rw [ht2]at h;obtain⟨w,hr,w5,w2⟩:=qv ht2;exact go w r1 [anyT] hr w5 (.inr ⟨w2,rfl⟩) h
  | none=>
   rw [ht2]at h
   cases h
   refine⟨[],[],rfl,by simp,Tail.nil,.inl rfl,?_,fun m hm=>?_⟩
   ·rw [take_none.1 ht,take_none.1 ht2];simp
   ·obtain⟨m,rfl⟩:∃ q,m=q+1:=⟨m - 1,by simp at hm;omega⟩;rfl
theorem qb23 {r:List Wd} {l:List St} {r':List Wd} {s:St} {r1:List Wd} (h1:qc2 n r=some (s,r1)) (h2:qd2 n [s] r1=some (l,r')) :
  ∃ u,r=u ++ r'∧Tail u∧u≠ []∧ ∀ (w:Wd) m,w.1=5→w.2.1= [47]→40*u.length+29≤m→qn2 m (w :: u)=some l:=by
 obtain⟨u1,rfl,t1,n1,m1⟩:=ih.step h1;obtain⟨u2,ss,rfl,rfl,t2,s2,_,m2⟩:=ih.more h2
 have hs:isW 1 [91] u2=false:=by
  rcases s2 with rfl | h | h
  ·rfl
  ·obtain⟨w,v,rfl,w1,_⟩:=qq2 h;exact ql3 w1 (by omega)
  ·obtain⟨w,v,rfl,w1,_⟩:=qq2 h;exact ql3 w1 (by omega)
 refine⟨u1 ++ u2,by simp,t1.app t2,by simp [n1],fun w m w5 w2 hm=>?_⟩;rw [Aq]at hm;have:=List.length_pos_iff.2 n1;obtain⟨m,rfl⟩:∃ q,m=q+1:=⟨m - 1,by omega⟩;simp only [qn2];rw [if_neg (by simp),if_pos (qz9 _ w5 w2),List.tail_cons,m1 u2 m hs (by omega),Ay,m2 m (by omega)];rfl
theorem a_loc {r:List Wd} {e:Ex} {r':List Wd} (h:qk18 (n+1) r=some (e,r')):∃ u,r=u ++ r'∧Tail u∧u≠ []∧ ∀ m,40*u.length+30≤m→qe23 m u=some e:=by
 simp only [qk18]at h
 cases h2:isW 5 [47,47] r with
 | true=>
  rw [h2]at h;simp only [if_true]at h;obtain⟨⟨l,r1⟩,h3,h4⟩:=ql h
  cases h4
  obtain⟨u,ss,rfl,hl,t,s,hb,m⟩:=ih.more h3;have hn:=hb (.inr h2);rw [qi3 hn]at h2;refine⟨u,rfl,t,hn,fun q hq=>?_⟩;obtain⟨q,rfl⟩:∃ p,q=p+1:=⟨q - 1,by omega⟩;simp only [qe23]
  have h1:isW 5 [47] u=false:=by
   obtain⟨w,v,rfl,w5,w2⟩:=qq2 h2;simp [isW,w2]
  have hl1:¬ u.length=1:=by
   intro hu;obtain⟨w,v,rfl,w5,w2⟩:=qq2 h2;have:v= []:=by simpa using hu
   subst this;obtain⟨q2,rfl⟩:∃ p,q=p+2:=⟨q - 2,by simp at hq;omega⟩;have hx:=m (q2+2) (by simp at hq ⊢;omega);simp only [qn2]at hx;rw [if_neg (by simp),if_neg (by rw [h1];simp),if_pos h2]at hx;simp only [List.tail_cons]at hx;exact absurd hx (by simp [qw7,takeW,qh8,qb3])
  rw [if_pos (by rw [h2];simp),if_neg hl1,m q (by omega),hl];rfl
 | false=>
  rw [h2]at h;simp only [AR,if_false]at h
  cases ht:takeW 5 [47] r with
  | some r1=>
   rw [ht]at h;simp only []at h;obtain⟨w,rfl,w5,w2⟩:=qv ht
   split at h
   ·cases h
    refine⟨[w],rfl,?_,by simp,fun q hq=>?_⟩
    ·have hp:=qe6 w5;exact Tail.one hp.1 hp.2.1 (by unfold pq;rw [w5,w2];decide) (by unfold ql6;rw [w5,w2];simp)
    ·obtain⟨q,rfl⟩:∃ p,q=p+1:=⟨q - 1,by simp at hq;omega⟩;simp [qe23,isW,w5,w2]
   ·obtain⟨⟨s,r2⟩,h3,h4⟩:=ql h;obtain⟨⟨l,r3⟩,h5,h6⟩:=ql h4
    cases h6
    obtain⟨u,rfl,t,hn,m⟩:=qb23 ih h3 h5;refine⟨w :: u,rfl,qm17 w5 (.inl w2) t hn,by simp,fun q hq=>?_⟩;rw [AE]at hq;obtain⟨q,rfl⟩:∃ p,q=p+1:=⟨q - 1,by omega⟩;simp only [qe23];rw [if_pos (by simp [isW,w5,w2]),if_neg (by simp [hn]),m w q w5 w2 (by omega)];rfl
  | none=>
   rw [ht]at h;simp only []at h;obtain⟨⟨s,r2⟩,h3,h4⟩:=ql h;obtain⟨⟨l,r3⟩,h5,h6⟩:=ql h4
   cases h6
   obtain⟨u,rfl,t,hn,m⟩:=qb23 ih h3 h5;have h1:=take_none.1 ht;rw [qi3 hn]at h1 h2;refine⟨u,rfl,t,hn,fun q hq=>?_⟩;obtain⟨q,rfl⟩:∃ p,q=p+1:=⟨q - 1,by omega⟩;simp only [qe23];rw [if_neg (by rw [h1,h2];simp),m _ q rfl rfl (by omega)];rfl
theorem qa27 {r:List Wd} {e:Ex} {r':List Wd} (hb:qa2 r=true) (h:qm3 (n+1) r=some (e,r')):∃ u1 u2 x ps,r=u1 ++ (u2 ++ r')∧e=filt x ps∧Tail u1∧u1≠ []∧Tail u2 ∧
  (∀ rest m,40*u1.length+28≤m→qj5 m (u1 ++ rest)=some (x,rest))∧(∀ rest m,isW 1 [91] rest=false→40*u2.length+27≤m→qf5 m (u2 ++ rest)=some (ps,rest)):=by
 simp only [qm3]at h;obtain⟨⟨x,r1⟩,h1,h2⟩:=ql h;obtain⟨⟨ps,r2⟩,h3,h4⟩:=ql h2
 cases h4
 obtain⟨u1,rfl,t1,n1,m1⟩:=ih.prim hb h1;obtain⟨u2,qs,rfl,hl,t2,m2⟩:=ih.preds h3;rw [AN]at hl;subst hl;exact⟨u1,u2,x,ps,rfl,rfl,t1,n1,t2,m1,m2⟩
theorem qa23 {s t:List UInt8} (hs:s= [40]∧t= [41]∨s= [91]∧t= [93]) {o:Wd} {r1:List Wd} {e:Ex} {r2 r3:List Wd} (o1:o.1=1) (o2:o.2.1=s) (h1:ql2 n 0 r1=some (e,r2)) (h2:takeW 1 t r2=some r3) :
  ∃ u c,r1=u ++ c :: r3∧c.1=1∧c.2.1=t∧Good 0 u∧Tail (o :: (u ++ [c]))∧(∀ rest,qp1 [] 0 (o :: (u ++ c :: rest))=some (u.length+1))∧(∀ m,40*u.length+40≤m→rOr m u 0=some e):=by
 obtain⟨u,rfl,hg,hm⟩:=ih.bin (by omega) h1;obtain⟨c,rfl,c1,c2⟩:=qv h2;have ho:qw1 o=true:=qw5 o1 o2 (hs.elim (fun h=> .inl h.1) (fun h=> .inr h.1));have hc:qf1 c=true:=qb4 c1 c2 (hs.elim (fun h=> .inl h.2) (fun h=> .inr h.2));have hw:c.2.1=qi13 o.2.1:=by rw [c2,o2];rcases hs with ⟨rfl,rfl⟩ | ⟨rfl,rfl⟩<;>rfl
 exact⟨u,c,rfl,c1,c2,hg,Tail.brackets ho hg.bal hc hw,fun rest=>by rw [qq6 ho hg.bal hc hw];congr 1;omega,hm⟩
theorem a_preds {acc:List Ex} {r:List Wd} {l:List Ex} {r':List Wd} (h:qm1 (n+1) acc r=some (l,r')):∃ u ps,r=u ++ r'∧l=acc ++ ps∧Tail u ∧
  (∀ rest m,isW 1 [91] rest=false→40*u.length+27≤m→qf5 m (u ++ rest)=some (ps,rest)):=by
 simp only [qm1]at h
 cases ht:takeW 1 [91] r with
 | none=>
  rw [ht]at h
  cases h
  refine⟨[],[],rfl,by simp,Tail.nil,fun rest m hr hm=>?_⟩;obtain⟨m,rfl⟩:∃ q,m=q+1:=⟨m - 1,by simp at hm;omega⟩;simp only [qf5,AN];rw [if_neg (by rw [hr];simp)]
 | some r1=>
  rw [ht]at h;simp only []at h;obtain⟨⟨e,r2⟩,h1,h2⟩:=ql h;obtain⟨r3,h3,h4⟩:=ql h2;obtain⟨o,rfl,o1,o2⟩:=qv ht;obtain⟨u,c,rfl,c1,c2,hg,tb,hp,hm⟩:=qa23 ih (.inr ⟨rfl,rfl⟩) o1 o2 h1 h3;obtain⟨u2,ps,rfl,hl,t2,m2⟩:=ih.preds h4;refine⟨o :: (u ++ [c]) ++ u2,e :: ps,by simp,by rw [hl];simp,tb.app t2,fun rest m hr hq=>?_⟩;simp only [Aq,AE,AY]at hq;obtain⟨m,rfl⟩:∃ q,m=q+1:=⟨m - 1,by omega⟩;rw [show o :: (u ++ [c]) ++ u2 ++ rest=o :: (u ++ c :: (u2 ++ rest)) by simp];simp only [qf5];rw [if_pos (qz9 _ o1 o2),hp];simp only []
  rw [show((o :: (u ++ c :: (u2 ++ rest))).take (u.length+1)).drop 1=u by simp,hm m (by omega),Ay,
   show(o :: (u ++ c :: (u2 ++ rest))).drop (u.length+1+1)=u2 ++ rest by simp [List.drop_append],m2 rest m hr (by omega)]
  rfl
omit ih in
theorem qy14 {w:Wd} {r:List Wd} (h:qa2 (w :: r)=true) (h10:w.1≠10) (h8:w.1≠8) (h9:w.1≠9) (h6:w.1≠6):w.1=1∧w.2.1= [40]:=by
 simpa [qa2,ofW,isW,h10,h8,h9,h6]using h
theorem a_prim {r:List Wd} {e:Ex} {r':List Wd} (hb:qa2 r=true) (h:qu3 (n+1) r=some (e,r')):∃ u,r=u ++ r'∧Tail u∧u≠ []∧ ∀ rest m,40*u.length+28≤m→qj5 m (u ++ rest)=some (e,rest):=by
 cases r with
 | nil=>cases h
 | cons w r=>
  simp only [qu3]at h
  have leaf:∀ e',w.1≠1→w.1≠5→(∀ rest m,qj5 (m+1) (w :: rest)=some (e',rest))→some (e',r)=some (e,r')→ ∃ u,w :: r=u ++ r'∧Tail u∧u≠ []∧ ∀ rest m,40*u.length+28≤m→qj5 m (u ++ rest)=some (e,rest):=by
   intro e' h1 h5 hr hq
   cases hq
   refine⟨[w],rfl,qd4 h1 h5,by simp,fun rest m hm=>?_⟩;obtain⟨m,rfl⟩:∃ q,m=q+1:=⟨m - 1,by simp at hm;omega⟩;exact hr rest m
  by_cases h10:w.1=10
  ·rw [if_pos (by simp [h10])]at h;exact leaf _ (by omega) (by omega) (fun rest m=>by simp [qj5,h10]) h
  rw [if_neg (by simp [h10])]at h;by_cases h8:w.1=8
  ·rw [if_pos (by simp [h8])]at h;exact leaf _ (by omega) (by omega) (fun rest m=>by simp [qj5,h8]) h
  rw [if_neg (by simp [h8])]at h;by_cases h9:w.1=9
  ·rw [if_pos (by simp [h9])]at h;exact leaf _ (by omega) (by omega) (fun rest m=>by simp [qj5,h9]) h
  rw [if_neg (by simp [h9])]at h;by_cases h6:w.1=6
  ·rw [if_pos (by simp [h6])]at h;obtain⟨u,rfl,t,hm⟩:=ih.call h;refine⟨w :: u,rfl,(qd4 (w:=w) (by omega) (by omega)).app t,by simp,fun rest m hq=>?_⟩;rw [AE]at hq;exact hm w rest m h6 rfl (by omega)
  rw [if_neg (by simp [h6])]at h;obtain⟨⟨e1,r2⟩,h1,h2⟩:=ql h;obtain⟨r3,h3,h4⟩:=ql h2
  cases h4
  obtain⟨w1,w2⟩:=qy14 hb h10 h8 h9 h6;obtain⟨u,c,rfl,c1,c2,hg,tb,hp,hm⟩:=qa23 ih (.inl ⟨rfl,rfl⟩) w1 w2 h1 h3;refine⟨w :: (u ++ [c]),by simp,tb,by simp,fun rest m hq=>?_⟩;simp only [Aq,AE,AY]at hq;obtain⟨m,rfl⟩:∃ q,m=q+1:=⟨m - 1,by omega⟩;rw [show w :: (u ++ [c]) ++ rest=w :: (u ++ c :: rest) by simp];simp only [qj5];rw [if_neg (by simp [h10]),if_neg (by simp [h8]),if_neg (by simp [h9]),if_neg (by simp [h6]),if_pos (qz9 _ w1 w2),hp];simp only []
  rw [show((w :: (u ++ c :: rest)).take (u.length+1)).drop 1=u by simp,hm m (by omega),Ay,
   show(w :: (u ++ c :: rest)).drop (u.length+1+1)=rest by simp [List.drop_append]]
theorem a_args {acc:List Ex} {r:List Wd} {l:List Ex} {r':List Wd} (h:qk5 (n+1) acc r=some (l,r')):∃ u es,r=u ++ r'∧l=acc ++ es∧qk6 [] u=some [] ∧
  ∀ v0 e0,Good 0 v0→(∀ m,40*v0.length+40≤m→rOr m v0 0=some e0)→ ∀ m,40*(v0.length+u.length)+45≤m→qk12 m (qc4 0 [] (v0 ++ u))=some (e0 :: es):=by
 simp only [qk5]at h
 cases ht:takeW 1 [44] r with
 | none=>
  rw [ht]at h
  cases h
  refine⟨[],[],rfl,by simp,rfl,fun v0 e0 hg hm m hq=>?_⟩;rw [qm9 [] hg.hit,qd8 hg.bal];obtain⟨m,rfl⟩:∃ q,m=q+2:=⟨m - 2,by omega⟩;simp only [qc4,AN,qk12,AY]at *;rw [hm (m+1) (by omega)];rfl
 | some r1=>
  rw [ht]at h;obtain⟨⟨e,r2⟩,h1,h2⟩:=ql h;obtain⟨w,rfl,w1,w2⟩:=qv ht;obtain⟨v,hv,hgv,hmv⟩:=ih.bin (by omega) h1;obtain⟨u,es,h3,hl,hb,hm2⟩:=ih.args h2;have ho:qw1 w=false:=by unfold qw1;rw [w1,w2];rfl
  have hc:qf1 w=false:=by unfold qf1;rw [w1,w2];rfl
  have hn:nx 0 w=0:=by unfold nx;rw [if_neg (by rw [ho];simp),if_neg (by rw [hc];simp)]
  have h3:r2=u ++ r':=h3;refine⟨w :: (v ++ u),e :: es,by rw [hv,h3];simp,by rw [hl];simp,?_,fun v0 e0 hg hm m hq=>?_⟩
  ·simp only [qk6,ho,hc,AR,if_false];rw [qj4,hgv.bal];exact hb
  ·simp only [Aq,AE]at hq;rw [qm9 _ hg.hit,qd8 hg.bal];simp only [qc4,AN];rw [if_pos ⟨hn,by rw [w1,w2];rfl⟩,hn];obtain⟨m,rfl⟩:∃ q,m=q+1:=⟨m - 1,by omega⟩;simp only [qk12];rw [hm m (by omega),Ay,hm2 v e hgv (fun q hq=>hmv q (by omega)) m (by omega)];rfl
theorem a_call {s:List UInt8} {r:List Wd} {e:Ex} {r':List Wd} (h:qw8 (n+1) s r=some (e,r')):∃ u,r=u ++ r'∧Tail u∧ ∀ (w:Wd) rest m,w.1=6→w.2.1=s→40*u.length+28≤m→qj5 m (w :: (u ++ rest))=some (e,rest):=by
 simp only [qw8]at h;obtain⟨r1,h1,h2⟩:=ql h;obtain⟨o,rfl,o1,o2⟩:=qv h1;have ho:qw1 o=true:=qw5 o1 o2 (.inl rfl)
 cases ht:takeW 1 [41] r1 with
 | some r2=>
  rw [ht]at h2
  cases h2
  obtain⟨c,rfl,c1,c2⟩:=qv ht;have hc:qf1 c=true:=qb4 c1 c2 (.inl rfl);refine⟨[o,c],rfl,Tail.brackets ho (u:=[]) rfl hc (by rw [c2,o2];rfl),fun w rest m w6 w2 hm=>?_⟩;obtain⟨m,rfl⟩:∃ q,m=q+1:=⟨m - 1,by simp at hm;omega⟩;have hp:=qq6 (k:=0) (u:=[]) (l:=rest) ho rfl hc (by rw [c2,o2];rfl);simp only [AN,AY]at hp;simp only [AJ,AN,qj5];rw [if_neg (by simp [w6]),if_neg (by simp [w6]),if_neg (by simp [w6]),if_pos (by simp [w6]),if_pos (qz9 _ o1 o2),hp];simp [w2]
 | none=>
  rw [ht]at h2;simp only []at h2;obtain⟨⟨e1,r2⟩,h3,h4⟩:=ql h2;obtain⟨⟨l,r3⟩,h5,h6⟩:=ql h4;obtain⟨r4,h7,h8⟩:=ql h6
  cases h8
  obtain⟨v0,rfl,hg,hm0⟩:=ih.bin (by omega) h3;obtain⟨u,es,rfl,hl,hb,hm⟩:=ih.args h5;obtain⟨c,rfl,c1,c2⟩:=qv h7;have hc:qf1 c=true:=qb4 c1 c2 (.inl rfl);have hw:c.2.1=qi13 o.2.1:=by rw [c2,o2];rfl
  have hbal:qk6 [] (v0 ++ u)=some []:=by rw [qj4,hg.bal];exact hb
  refine⟨o :: ((v0 ++ u) ++ [c]),by simp,Tail.brackets ho hbal hc hw,fun w rest m w6 w2 hq=>?_⟩;simp only [Aq,AE,AY]at hq;obtain⟨m,rfl⟩:∃ q,m=q+1:=⟨m - 1,by omega⟩;rw [show o :: ((v0 ++ u) ++ [c]) ++ rest=o :: ((v0 ++ u) ++ c :: rest) by simp];have hp:=qq6 (k:=0) (l:=rest) ho hbal hc hw;have hv:=List.length_pos_iff.2 hg.ne;simp only [qj5];rw [if_neg (by simp [w6]),if_neg (by simp [w6]),if_neg (by simp [w6]),if_pos (by simp [w6]),if_pos (qz9 _ o1 o2),hp];simp only [];rw [if_neg (by rw [Aq];omega),show 0+1+(v0 ++ u).length=(v0 ++ u).length+1 by omega,qc12,qy12,hm v0 e1 hg (fun q hq=>hm0 q (by omega)) m (by omega),Ay,hl,w2];rfl
theorem a_step {r:List Wd} {s:St} {r':List Wd} (h:qc2 (n+1) r=some (s,r')):∃ u,r=u ++ r'∧Tail u∧u≠ []∧ ∀ rest m,isW 1 [91] rest=false→40*u.length+28≤m→qw7 m (u ++ rest)=some (s,rest):=by
 simp only [qc2]at h
 cases h1:takeW 1 [46] r with
 | some r1=>
  rw [h1]at h
  cases h
  obtain⟨w,rfl,w1,w2⟩:=qv h1;refine⟨[w],rfl,qj22 w1 (.inl w2),by simp,fun rest m _ hm=>?_⟩;obtain⟨m,rfl⟩:∃ q,m=q+1:=⟨m - 1,by simp at hm;omega⟩;simp only [AJ,AN,qw7,take_of _ w1 w2]
 | none=>
  rw [h1]at h;simp only []at h
  cases h2:takeW 1 [46,46] r with
  | some r1=>
   rw [h2]at h
   cases h
   obtain⟨w,rfl,w1,w2⟩:=qv h2;refine⟨[w],rfl,qj22 w1 (.inr w2),by simp,fun rest m _ hm=>?_⟩;obtain⟨m,rfl⟩:∃ q,m=q+1:=⟨m - 1,by simp at hm;omega⟩;simp only [AJ,AN,qw7,take_of _ w1 w2];rw [take_none.2 (by simp [isW,w1,w2])]
  | none=>
   rw [h2]at h;simp only []at h;obtain⟨⟨a,r1⟩,h3,h4⟩:=ql h;obtain⟨⟨t,r2⟩,h5,h6⟩:=ql h4;obtain⟨⟨ps,r3⟩,h7,h8⟩:=ql h6
   cases h8
   obtain⟨u,rfl,tu,hn,hd,hdd,hh⟩:=qr14 h3 h5;obtain⟨u2,qs,rfl,hl,t2,hm⟩:=ih.preds h7;rw [AN]at hl;subst hl;refine⟨u ++ u2,by simp,tu.app t2,by simp [hn],fun rest m hr hq=>?_⟩;rw [Aq]at hq;obtain⟨m,rfl⟩:∃ q,m=q+1:=⟨m - 1,by omega⟩;obtain⟨x,hx1,hx2⟩:=hh (u2 ++ rest);rw [A9];simp only [qw7];rw [take_none.2 (by rw [qi3 hn];exact hd)];simp only [];rw [take_none.2 (by rw [qi3 hn];exact hdd)];simp only [];rw [hx1,Ay];simp only [];rw [hx2,Ay];simp only [];rw [hm rest m hr (by omega),Ay]
end
theorem qk3:∀ n,AllA n
 | 0=>⟨fun _ h=>(by cases h),fun _ _ _ h=>(by cases h),fun h=>(by cases h),fun h=>(by cases h),fun _ _ h=>(by cases h),fun h=>(by cases h),fun h=>(by cases h),fun h=>(by cases h),fun _ h=>(by cases h),fun h=>(by cases h),fun _ h=>(by cases h),fun h=>(by cases h),fun h=>(by cases h),fun h=>(by cases h)⟩
 | n+1=>⟨a_bin (qk3 n),a_loop (qk3 n),qz26 (qk3 n),a_union (qk3 n),a_uloop (qk3 n),a_path (qk3 n),a_more (qk3 n),a_loc (qk3 n),qa27 (qk3 n),a_preds (qk3 n),a_prim (qk3 n),a_call (qk3 n),a_args (qk3 n),a_step (qk3 n)⟩
end Go.Proofs.YtocdckniokhbbaaGreatDoor.Syn
