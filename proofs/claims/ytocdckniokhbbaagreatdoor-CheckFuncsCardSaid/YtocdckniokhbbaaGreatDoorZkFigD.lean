import Derived.Test.YtocdckniokhbbaaGreatDoorZkZz
import Derived.Test.YtocdckniokhbbaaGreatDoorZkSynC
import Derived.Test.YtocdckniokhbbaaGreatDoorZkFigC
import Derived.Test.YtocdckniokhbbaaGreatDoorZkPFx1
import Derived.Lib.Builder
import Derived.Shelf.RegionOpen
set_option linter.unusedVariables false
set_option linter.unusedSimpArgs false
open List renaming length_append→Ar,length_cons→AK,nil_append→Bo,length_nil→A8,cons_append→Bf
open Option renaming bind_some→AH
open Bool renaming false_eq_true→AS,and_eq_true→AF
open Go.Obj renaming cells→Af
open Go.Lib renaming cell_of_heap→Ai,frozen_of_heap→Bd,size_eq→Bh
open Array renaming getElem?_eq_some_iff→An
open Go.RowKit.Below renaming heap_setCell→AX,refl→Ao
open Go.Value renaming bool→Ae,string→Ac,int→Aa
open Go.Proofs.Tryz renaming prog→Aj
open Nat renaming le_refl→Ag,zero_le→Ba
open Go.IntKind renaming i64→Ab
set_option maxHeartbeats 1600000
set_option maxRecDepth 100000
namespace Go.Proofs.YtocdckniokhbbaaGreatDoor.Syn
open LexA
def filt (x:Ex) (ps:List Ex):Ex:=if ps.isEmpty then x else mkW 17 (x :: ps)
structure AllA (n:Nat):Prop where
 bin:∀ {k:Nat} {r:List Wd} {e:Ex} {r':List Wd},k≤6→qk3 n k r=some (e,r')→ ∃ u,r=u ++ r'∧Good k u∧ ∀ m,40*u.length+40 - k≤m→rOr m u k=some e
 loop:∀ {k:Nat} {e0:Ex} {u0 r:List Wd} {e:Ex} {r':List Wd},k<6→Good k u0→(∀ m,40*u0.length+40 - k≤m→rOr m u0 k=some e0)→qx6 n k e0 r=some (e,r') →
  ∃ u,r=u ++ r'∧Good k (u0 ++ u)∧ ∀ m,40*(u0 ++ u).length+40 - k≤m→rOr m (u0 ++ u) k=some e
 signed:∀ {r:List Wd} {e:Ex} {r':List Wd},qr4 n r=some (e,r')→ ∃ u,r=u ++ r'∧Good 6 u∧ ∀ m,40*u.length+33≤m→qo7 m u=some e
 union:∀ {r:List Wd} {e:Ex} {r':List Wd},qf6 n r=some (e,r')→isW 5 [45] r=false→ ∃ u,r=u ++ r'∧Good 6 u∧isW 5 [45] u=false∧ ∀ m,40*u.length+32≤m→qw4 m u=some e
 uloop:∀ {e0:Ex} {u0 r:List Wd} {e:Ex} {r':List Wd},Good 6 u0→(∀ m,40*u0.length+32≤m→qw4 m u0=some e0)→qk5 n e0 r=some (e,r') →
  ∃ u,r=u ++ r'∧Good 6 (u0 ++ u)∧ ∀ m,40*(u0 ++ u).length+32≤m→qw4 m (u0 ++ u)=some e
 path:∀ {r:List Wd} {e:Ex} {r':List Wd},qb6 n r=some (e,r')→ ∃ u,r=u ++ r'∧Tail u∧u≠ []∧ ∀ m,40*u.length+31≤m→qf14 m u=some e
 more:∀ {acc:List St} {r:List Wd} {l:List St} {r':List Wd},qn2 n acc r=some (l,r')→ ∃ u ss,r=u ++ r'∧l=acc ++ ss∧Tail u∧(u= []∨isW 5 [47] u=true∨isW 5 [47,47] u=true)∧(isW 5 [47] r=true∨isW 5 [47,47] r=true→u≠ []) ∧
  ∀ m,40*u.length+29≤m→qx4 m u=some ss
 loc:∀ {r:List Wd} {e:Ex} {r':List Wd},qo21 n r=some (e,r')→ ∃ u,r=u ++ r'∧Tail u∧u≠ []∧ ∀ m,40*u.length+30≤m→rLoc m u=some e
 filter:∀ {r:List Wd} {e:Ex} {r':List Wd},qf2 r=true→qj4 n r=some (e,r')→ ∃ u1 u2 x ps,r=u1 ++ (u2 ++ r')∧e=filt x ps∧Tail u1∧u1≠ []∧Tail u2 ∧
  (∀ rest m,40*u1.length+28≤m→qi6 m (u1 ++ rest)=some (x,rest))∧(∀ rest m,isW 1 [91] rest=false→40*u2.length+27≤m→qv6 m (u2 ++ rest)=some (ps,rest))
 preds:∀ {acc:List Ex} {r:List Wd} {l:List Ex} {r':List Wd},qv1 n acc r=some (l,r')→ ∃ u ps,r=u ++ r'∧l=acc ++ ps∧Tail u ∧
  (∀ rest m,isW 1 [91] rest=false→40*u.length+27≤m→qv6 m (u ++ rest)=some (ps,rest))
 prim:∀ {r:List Wd} {e:Ex} {r':List Wd},qf2 r=true→qh8 n r=some (e,r')→ ∃ u,r=u ++ r'∧Tail u∧u≠ []∧ ∀ rest m,40*u.length+28≤m→qi6 m (u ++ rest)=some (e,rest)
 call:∀ {s:List UInt8} {r:List Wd} {e:Ex} {r':List Wd},qf10 n s r=some (e,r')→ ∃ u,r=u ++ r'∧Tail u∧ ∀ (w:Wd) rest m,w.1=6→w.2.1=s→40*u.length+28≤m→qi6 m (w :: (u ++ rest))=some (e,rest)
 args:∀ {acc:List Ex} {r:List Wd} {l:List Ex} {r':List Wd},qy6 n acc r=some (l,r')→ ∃ u es,r=u ++ r'∧l=acc ++ es∧qa6 [] u=some [] ∧
  ∀ v0 e0,Good 0 v0→(∀ m,40*v0.length+40≤m→rOr m v0 0=some e0)→ ∀ m,40*(v0.length+u.length)+45≤m→qg16 m (qd6 0 [] (v0 ++ u))=some (e0 :: es)
 step:∀ {r:List Wd} {s:St} {r':List Wd},qv2 n r=some (s,r')→ ∃ u,r=u ++ r'∧Tail u∧u≠ []∧ ∀ rest m,isW 1 [91] rest=false→40*u.length+28≤m→qa13 m (u ++ rest)=some (s,rest)
theorem take_in (o c:Wd) (X rest:List Wd):((o :: (X ++ c :: rest)).take (X.length+1)).drop 1=X:=by simp
theorem drop_in (o c:Wd) (X rest:List Wd):(o :: (X ++ c :: rest)).drop (X.length+1+1)=rest:=by simp [List.drop_append]
section
variable {n:Nat} (ih:AllA n)
include ih
theorem a_bin {k:Nat} {r:List Wd} {e:Ex} {r':List Wd} (hk:k≤6) (h:qk3 (n+1) k r=some (e,r')):∃ u,r=u ++ r'∧Good k u∧ ∀ m,40*u.length+40 - k≤m→rOr m u k=some e:=by
 simp only [qk3]at h;by_cases h6:6≤k
 ·rw [if_pos h6]at h;obtain⟨u,rfl,hg,hm⟩:=ih.signed h;obtain rfl:k=6:=by omega
  refine⟨u,rfl,hg,fun m hq=>?_⟩;obtain⟨m,rfl⟩:∃ q,m=q+1:=⟨m - 1,by omega⟩;simp only [rOr];rw [if_pos (by omega)];exact hm m (by omega)
 ·rw [if_neg h6]at h;obtain⟨⟨e1,r1⟩,h1,h2⟩:=qx h;obtain⟨u0,rfl,hg,hm⟩:=ih.bin (by omega) h1
  have hm0:∀ m,40*u0.length+40 - k≤m→rOr m u0 k=some e1:=by
   intro m hq;obtain⟨m,rfl⟩:∃ q,m=q+1:=⟨m - 1,by omega⟩;simp only [rOr];rw [if_neg h6,ql9 (qt10 k (by omega)) hg.hit];exact hm m (by omega)
  obtain⟨u,rfl,hg',hm'⟩:=ih.loop (by omega) (hg.le (by omega)) hm0 h2;exact⟨u0 ++ u,by simp,hg',hm'⟩
theorem a_loop {k:Nat} {e0:Ex} {u0 r:List Wd} {e:Ex} {r':List Wd} (hk:k<6) (hg:Good k u0) (hm:∀ m,40*u0.length+40 - k≤m→rOr m u0 k=some e0) (h:qx6 (n+1) k e0 r=some (e,r')) :
  ∃ u,r=u ++ r'∧Good k (u0 ++ u)∧ ∀ m,40*(u0 ++ u).length+40 - k≤m→rOr m (u0 ++ u) k=some e:=by
 simp only [qx6]at h
 cases ho:opOf k r with
 | none=>
  rw [ho]at h
  cases h
  exact⟨[],rfl,by simpa using hg,by simpa using hm⟩
 | some o=>
  rw [ho]at h;obtain⟨⟨e1,r1⟩,h1,h2⟩:=qx h;obtain⟨w,rfl,w5,wc,wk,wn⟩:=ql19 hk ho;obtain⟨v,hv,hgv,hmv⟩:=ih.bin (by omega) h1;have hG:=hg.op hgv w5 wn (qy18 k hk _ wc)
  have hM:∀ m,40*(u0 ++ w :: v).length+40 - k≤m→rOr m (u0 ++ w :: v) k=some (mkW o.1 [e0,e1]):=by
   intro m hq;rw [Ar,AK]at hq;obtain⟨m,rfl⟩:∃ q,m=q+1:=⟨m - 1,by omega⟩;simp only [rOr];rw [if_neg (by omega),qe20 hg hgv w5 wn wc (qt10 k hk)];simp only []
   rw [show(u0 ++ w :: v).take u0.length=u0 by simp,show(u0 ++ w :: v).drop (u0.length+1)=v by simp,hm m (by omega),AH,hmv m (by omega),AH,
    show(u0 ++ w :: v)[u0.length]?=some w by simp]
   simp only [Option.getD_some,wk]
  obtain⟨u,rfl,hg',hm'⟩:=ih.loop hk hG hM h2;refine⟨w :: (v ++ u),by rw [hv];simp,by simpa using hg',by simpa using hm'⟩
theorem qb25 {r:List Wd} {e:Ex} {r':List Wd} (h:qr4 (n+1) r=some (e,r')):∃ u,r=u ++ r'∧Good 6 u∧ ∀ m,40*u.length+33≤m→qo7 m u=some e:=by
 simp only [qr4]at h
 cases ht:takeW 5 [45] r with
 | some r1=>
  rw [ht]at h;obtain⟨⟨e1,r2⟩,h1,h2⟩:=qx h
  cases h2
  obtain⟨w,rfl,w5,w2⟩:=qg1 ht;obtain⟨u,rfl,hg,hm⟩:=ih.signed h1;have hn:=qs11 w5 (by rw [w2];decide);have hp:=qt5 w5;refine⟨w :: u,rfl,⟨by simp,?_,?_,?_⟩,?_⟩
  ·simp only [qa6,hp.1,hp.2.1,AS,if_false];exact hg.bal
  ·simp only [qg3,hp.2.2.2,hn,hg.hit];have:pq (below 6) false w=false:=by unfold pq;rw [w5,w2];decide
   rw [this];rfl
  ·simp only [qv9,hn];exact hg.last
  ·intro m hq;rw [AK]at hq;obtain⟨m,rfl⟩:∃ q,m=q+1:=⟨m - 1,by omega⟩;simp only [qo7,take_of u w5 w2,hm m (by omega),AH]
 | none=>
  rw [ht]at h;obtain⟨u,rfl,hg,h45,hm⟩:=ih.union h (take_none.1 ht);refine⟨u,rfl,hg,fun m hq=>?_⟩;obtain⟨m,rfl⟩:∃ q,m=q+1:=⟨m - 1,by omega⟩;simp only [qo7,take_none.2 h45];exact hm m (by omega)
theorem a_union {r:List Wd} {e:Ex} {r':List Wd} (h:qf6 (n+1) r=some (e,r')) (h45:isW 5 [45] r=false):∃ u,r=u ++ r'∧Good 6 u∧isW 5 [45] u=false∧ ∀ m,40*u.length+32≤m→qw4 m u=some e:=by
 simp only [qf6]at h;obtain⟨⟨e1,r1⟩,h1,h2⟩:=qx h;obtain⟨u0,rfl,ht,hn,hm⟩:=ih.path h1
 have hm0:∀ m,40*u0.length+32≤m→qw4 m u0=some e1:=by
  intro m hq;obtain⟨m,rfl⟩:∃ q,m=q+1:=⟨m - 1,by omega⟩;simp only [qw4];rw [ql9 (ops:=below 7) (fun x hx=>qe4 hx) (ht.good hn).hit];exact hm m (by omega)
 obtain⟨u,rfl,hg',hm'⟩:=ih.uloop ((ht.good hn).le (by omega)) hm0 h2;refine⟨u0 ++ u,by simp,hg',?_,hm'⟩;rw [qc11 hn]at h45 ⊢;exact h45
theorem a_uloop {e0:Ex} {u0 r:List Wd} {e:Ex} {r':List Wd} (hg:Good 6 u0) (hm:∀ m,40*u0.length+32≤m→qw4 m u0=some e0) (h:qk5 (n+1) e0 r=some (e,r')) :
  ∃ u,r=u ++ r'∧Good 6 (u0 ++ u)∧ ∀ m,40*(u0 ++ u).length+32≤m→qw4 m (u0 ++ u)=some e:=by
 simp only [qk5]at h
 cases ht:takeW 5 [124] r with
 | none=>
  rw [ht]at h
  cases h
  exact⟨[],rfl,by simpa using hg,by simpa using hm⟩
 | some r1=>
  rw [ht]at h;obtain⟨⟨e1,r2⟩,h1,h2⟩:=qx h;obtain⟨w,rfl,w5,w2⟩:=qg1 ht;obtain⟨v,hv,hgv,hvn,hmv⟩:=ih.path h1;have hgv':=hgv.good hvn;have wn:w.2.1≠ [47]:=by rw [w2];decide
  have hG:=hg.op hgv' w5 wn (by rw [w2];decide)
  have hM:∀ m,40*(u0 ++ w :: v).length+32≤m→qw4 m (u0 ++ w :: v)=some (mkW 14 [e0,e1]):=by
   intro m hq;rw [Ar,AK]at hq;obtain⟨m,rfl⟩:∃ q,m=q+1:=⟨m - 1,by omega⟩;simp only [qw4];rw [qe20 (j:=6) hg hgv' w5 wn (by rw [w2];decide) (fun x hx=>qe4 hx)];simp only [];rw [show(u0 ++ w :: v).take u0.length=u0 by simp,show(u0 ++ w :: v).drop (u0.length+1)=v by simp,hm m (by omega),AH,hmv m (by omega),AH]
  obtain⟨u,rfl,hg',hm'⟩:=ih.uloop hG hM h2;refine⟨w :: (v ++ u),by rw [hv];simp,by simpa using hg',by simpa using hm'⟩
theorem a_path {r:List Wd} {e:Ex} {r':List Wd} (h:qb6 (n+1) r=some (e,r')):∃ u,r=u ++ r'∧Tail u∧u≠ []∧ ∀ m,40*u.length+31≤m→qf14 m u=some e:=by
 simp only [qb6]at h
 cases hb:qf2 r with
 | true=>
  rw [hb]at h;simp only [if_true]at h;obtain⟨⟨e1,r1⟩,h1,h2⟩:=qx h;obtain⟨u1,u2,x,ps,rfl,he,t1,hn1,t2,hm1,hm2⟩:=ih.filter hb h1;simp only []at h2;rw [qy5 hn1]at hb
  cases hc:(!isW 5 [47] r1 && !isW 5 [47,47] r1)with
  | true=>
   rw [hc]at h2
   cases h2
   refine⟨u1 ++ u2,by simp,t1.app t2,by simp [hn1],fun m hq=>?_⟩;rw [Ar]at hq;obtain⟨m,rfl⟩:∃ q,m=q+1:=⟨m - 1,by omega⟩;have k2:=hm2 [] m rfl (by omega);rw [List.append_nil]at k2;simp only [qf14];rw [if_neg (by simp [hn1]),if_pos (by rw [qy5 hn1];exact hb),hm1 u2 m (by omega)];simp only [AH,k2,List.isEmpty_nil,if_true];rw [he];rfl
  | false=>
   rw [hc]at h2;simp only [AS,if_false]at h2;obtain⟨⟨l,r2⟩,h3,h4⟩:=qx h2
   cases h4
   obtain⟨u3,ss,rfl,hl,t3,hs3,hb3,hm3⟩:=ih.more h3
   have hn3:u3≠ []:=hb3 (by
    simp only [Bool.and_eq_false_iff,Bool.not_eq_false']at hc
    exact hc)
   refine⟨u1 ++ (u2 ++ u3),by simp,t1.app (t2.app t3),by simp [hn1],fun m hq=>?_⟩;simp only [Ar]at hq;obtain⟨m,rfl⟩:∃ q,m=q+1:=⟨m - 1,by omega⟩
   have hs:isW 1 [91] u3=false:=by
    rcases hs3 with h | h | h
    ·exact absurd h hn3
    ·obtain⟨w,v,rfl,w1,_⟩:=qm5 h;exact qy4 w1 (by omega)
    ·obtain⟨w,v,rfl,w1,_⟩:=qm5 h;exact qy4 w1 (by omega)
   simp only [qf14];rw [if_neg (by simp [hn1]),if_pos (by rw [qy5 hn1];exact hb),hm1 (u2 ++ u3) m (by omega)];simp only [AH,hm2 u3 m hs (by omega)];rw [if_neg (by simp [hn3]),hm3 m (by omega),hl,he];rfl
 | false=>
  rw [hb]at h;simp only [AS,if_false]at h;obtain⟨u,rfl,t,hn,hm⟩:=ih.loc h;refine⟨u,rfl,t,hn,fun m hq=>?_⟩;obtain⟨m,rfl⟩:∃ q,m=q+1:=⟨m - 1,by omega⟩;rw [qy5 hn]at hb;simp only [qf14];rw [if_neg (by simp [hn]),if_neg (by rw [hb];simp)];exact hm m (by omega)
theorem a_more {acc:List St} {r:List Wd} {l:List St} {r':List Wd} (h:qn2 (n+1) acc r=some (l,r')):∃ u ss,r=u ++ r'∧l=acc ++ ss∧Tail u∧(u= []∨isW 5 [47] u=true∨isW 5 [47,47] u=true)∧(isW 5 [47] r=true∨isW 5 [47,47] r=true→u≠ []) ∧
  ∀ m,40*u.length+29≤m→qx4 m u=some ss:=by
 simp only [qn2]at h
 have go:∀ (w:Wd) (r1:List Wd) (pre:List St),r=w :: r1→w.1=5→(w.2.1= [47]∧pre= []∨w.2.1= [47,47]∧pre= [anyT])→((qv2 n r1).bind fun x=>qn2 n (acc ++ (pre ++ [x.1])) x.2)=some (l,r') →
   ∃ u ss,r=u ++ r'∧l=acc ++ ss∧Tail u∧(u= []∨isW 5 [47] u=true∨isW 5 [47,47] u=true)∧(isW 5 [47] r=true∨isW 5 [47,47] r=true→u≠ []) ∧
   ∀ m,40*u.length+29≤m→qx4 m u=some ss:=by
  intro w r1 pre hr w5 hw hq;obtain⟨⟨s,r2⟩,h1,h2⟩:=qx hq;obtain⟨u1,rfl,t1,n1,m1⟩:=ih.step h1;obtain⟨u2,ss,h3,hl,t2,s2,_,m2⟩:=ih.more h2;have h3:r2=u2 ++ r':=h3
  have hs:isW 1 [91] u2=false:=by
   rcases s2 with rfl | h | h
   ·rfl
   ·obtain⟨w,v,rfl,w1,_⟩:=qm5 h;exact qy4 w1 (by omega)
   ·obtain⟨w,v,rfl,w1,_⟩:=qm5 h;exact qy4 w1 (by omega)
  refine⟨w :: (u1 ++ u2),pre ++ [s] ++ ss,by rw [hr,h3];simp,by rw [hl];simp,qu15 w5 (hw.elim (fun h=> .inl h.1) (fun h=> .inr h.1)) (t1.app t2) (by simp [n1]),.inr ?_,fun _=>by simp,fun m hm=>?_⟩
  ·rcases hw with ⟨h,_⟩ | ⟨h,_⟩
   ·exact .inl (qx11 _ w5 h)
   ·exact .inr (qx11 _ w5 h)
  ·rw [AK,Ar]at hm;obtain⟨m,rfl⟩:∃ q,m=q+1:=⟨m - 1,by omega⟩;simp only [qx4];rw [if_neg (by simp)]
   rcases hw with ⟨h,rfl⟩ | ⟨h,rfl⟩
   ·rw [if_pos (qx11 _ w5 h),List.tail_cons,m1 u2 m hs (by omega),AH,m2 m (by omega)];rfl
   ·rw [if_neg (by simp [isW,w5,h]),if_pos (qx11 _ w5 h),List.tail_cons,m1 u2 m hs (by omega),AH,m2 m (by omega)];rfl
 cases ht:takeW 5 [47] r with
 | some r1=>
  rw [ht]at h;obtain⟨w,hr,w5,w2⟩:=qg1 ht;exact go w r1 [] hr w5 (.inl ⟨w2,rfl⟩) h
 | none=>
  rw [ht]at h;simp only []at h
  cases ht2:takeW 5 [47,47] r with
  | some r1=>
   rw [ht2]at h;obtain⟨w,hr,w5,w2⟩:=qg1 ht2;exact go w r1 [anyT] hr w5 (.inr ⟨w2,rfl⟩) h
  | none=>
   rw [ht2]at h
   cases h
   refine⟨[],[],rfl,by simp,Tail.nil,.inl rfl,?_,fun m hm=>?_⟩
   ·rw [take_none.1 ht,take_none.1 ht2];simp
   ·obtain⟨m,rfl⟩:∃ q,m=q+1:=⟨m - 1,by simp at hm;omega⟩;rfl
theorem qk21 {r:List Wd} {l:List St} {r':List Wd} {s:St} {r1:List Wd} (h1:qv2 n r=some (s,r1)) (h2:qn2 n [s] r1=some (l,r')) :
  ∃ u,r=u ++ r'∧Tail u∧u≠ []∧ ∀ (w:Wd) m,w.1=5→w.2.1= [47]→40*u.length+29≤m→qx4 m (w :: u)=some l:=by
 obtain⟨u1,rfl,t1,n1,m1⟩:=ih.step h1;obtain⟨u2,ss,rfl,rfl,t2,s2,_,m2⟩:=ih.more h2
 have hs:isW 1 [91] u2=false:=by
  rcases s2 with rfl | h | h
  ·rfl
  ·obtain⟨w,v,rfl,w1,_⟩:=qm5 h;exact qy4 w1 (by omega)
  ·obtain⟨w,v,rfl,w1,_⟩:=qm5 h;exact qy4 w1 (by omega)
 refine⟨u1 ++ u2,by simp,t1.app t2,by simp [n1],fun w m w5 w2 hm=>?_⟩;rw [Ar]at hm;have:=List.length_pos_iff.2 n1;obtain⟨m,rfl⟩:∃ q,m=q+1:=⟨m - 1,by omega⟩;simp only [qx4];rw [if_neg (by simp),if_pos (qx11 _ w5 w2),List.tail_cons,m1 u2 m hs (by omega),AH,m2 m (by omega)];rfl
theorem a_loc {r:List Wd} {e:Ex} {r':List Wd} (h:qo21 (n+1) r=some (e,r')):∃ u,r=u ++ r'∧Tail u∧u≠ []∧ ∀ m,40*u.length+30≤m→rLoc m u=some e:=by
 simp only [qo21]at h
 cases h2:isW 5 [47,47] r with
 | true=>
  rw [h2]at h;simp only [if_true]at h;obtain⟨⟨l,r1⟩,h3,h4⟩:=qx h
  cases h4
  obtain⟨u,ss,rfl,hl,t,s,hb,m⟩:=ih.more h3;have hn:=hb (.inr h2);rw [qc11 hn]at h2;refine⟨u,rfl,t,hn,fun q hq=>?_⟩;obtain⟨q,rfl⟩:∃ p,q=p+1:=⟨q - 1,by omega⟩;simp only [rLoc]
  have h1:isW 5 [47] u=false:=by
   obtain⟨w,v,rfl,w5,w2⟩:=qm5 h2;simp [isW,w2]
  have hl1:¬ u.length=1:=by
   intro hu;obtain⟨w,v,rfl,w5,w2⟩:=qm5 h2;have:v= []:=by simpa using hu
   subst this;obtain⟨q2,rfl⟩:∃ p,q=p+2:=⟨q - 2,by simp at hq;omega⟩;have hx:=m (q2+2) (by simp at hq ⊢;omega);simp only [qx4]at hx;rw [if_neg (by simp),if_neg (by rw [h1];simp),if_pos h2]at hx;simp only [List.tail_cons]at hx;exact absurd hx (by simp [qa13,takeW,qj8,qi3])
  rw [if_pos (by rw [h2];simp),if_neg hl1,m q (by omega),hl];rfl
 | false=>
  rw [h2]at h;simp only [AS,if_false]at h
  cases ht:takeW 5 [47] r with
  | some r1=>
   rw [ht]at h;simp only []at h;obtain⟨w,rfl,w5,w2⟩:=qg1 ht
   split at h
   ·cases h
    refine⟨[w],rfl,?_,by simp,fun q hq=>?_⟩
    ·have hp:=qt5 w5;exact Tail.one hp.1 hp.2.1 (by unfold pq;rw [w5,w2];decide) (by unfold qc6;rw [w5,w2];simp)
    ·obtain⟨q,rfl⟩:∃ p,q=p+1:=⟨q - 1,by simp at hq;omega⟩;simp [rLoc,isW,w5,w2]
   ·obtain⟨⟨s,r2⟩,h3,h4⟩:=qx h;obtain⟨⟨l,r3⟩,h5,h6⟩:=qx h4
    cases h6
    obtain⟨u,rfl,t,hn,m⟩:=qk21 ih h3 h5;refine⟨w :: u,rfl,qu15 w5 (.inl w2) t hn,by simp,fun q hq=>?_⟩;rw [AK]at hq;obtain⟨q,rfl⟩:∃ p,q=p+1:=⟨q - 1,by omega⟩;simp only [rLoc];rw [if_pos (by simp [isW,w5,w2]),if_neg (by simp [hn]),m w q w5 w2 (by omega)];rfl
  | none=>
   rw [ht]at h;simp only []at h;obtain⟨⟨s,r2⟩,h3,h4⟩:=qx h;obtain⟨⟨l,r3⟩,h5,h6⟩:=qx h4
   cases h6
   obtain⟨u,rfl,t,hn,m⟩:=qk21 ih h3 h5;have h1:=take_none.1 ht;rw [qc11 hn]at h1 h2;refine⟨u,rfl,t,hn,fun q hq=>?_⟩;obtain⟨q,rfl⟩:∃ p,q=p+1:=⟨q - 1,by omega⟩;simp only [rLoc];rw [if_neg (by rw [h1,h2];simp),m _ q rfl rfl (by omega)];rfl
theorem qc25 {r:List Wd} {e:Ex} {r':List Wd} (hb:qf2 r=true) (h:qj4 (n+1) r=some (e,r')):∃ u1 u2 x ps,r=u1 ++ (u2 ++ r')∧e=filt x ps∧Tail u1∧u1≠ []∧Tail u2 ∧
  (∀ rest m,40*u1.length+28≤m→qi6 m (u1 ++ rest)=some (x,rest))∧(∀ rest m,isW 1 [91] rest=false→40*u2.length+27≤m→qv6 m (u2 ++ rest)=some (ps,rest)):=by
 simp only [qj4]at h;obtain⟨⟨x,r1⟩,h1,h2⟩:=qx h;obtain⟨⟨ps,r2⟩,h3,h4⟩:=qx h2
 cases h4
 obtain⟨u1,rfl,t1,n1,m1⟩:=ih.prim hb h1;obtain⟨u2,qs,rfl,hl,t2,m2⟩:=ih.preds h3;rw [Bo]at hl;subst hl;exact⟨u1,u2,x,ps,rfl,rfl,t1,n1,t2,m1,m2⟩
theorem qj21 {s t:List UInt8} (hs:s= [40]∧t= [41]∨s= [91]∧t= [93]) {o:Wd} {r1:List Wd} {e:Ex} {r2 r3:List Wd} (o1:o.1=1) (o2:o.2.1=s) (h1:qk3 n 0 r1=some (e,r2)) (h2:takeW 1 t r2=some r3) :
  ∃ u c,r1=u ++ c :: r3∧c.1=1∧c.2.1=t∧Good 0 u∧Tail (o :: (u ++ [c]))∧(∀ rest,qs2 [] 0 (o :: (u ++ c :: rest))=some (u.length+1))∧(∀ m,40*u.length+40≤m→rOr m u 0=some e):=by
 obtain⟨u,rfl,hg,hm⟩:=ih.bin (by omega) h1;obtain⟨c,rfl,c1,c2⟩:=qg1 h2;have ho:qc2 o=true:=qc7 o1 o2 (hs.elim (fun h=> .inl h.1) (fun h=> .inr h.1));have hc:qn1 c=true:=qo4 c1 c2 (hs.elim (fun h=> .inl h.2) (fun h=> .inr h.2));have hw:c.2.1=qw15 o.2.1:=by rw [c2,o2];rcases hs with ⟨rfl,rfl⟩ | ⟨rfl,rfl⟩<;>rfl
 exact⟨u,c,rfl,c1,c2,hg,Tail.brackets ho hg.bal hc hw,fun rest=>by rw [qj6 ho hg.bal hc hw];congr 1;omega,hm⟩
theorem a_preds {acc:List Ex} {r:List Wd} {l:List Ex} {r':List Wd} (h:qv1 (n+1) acc r=some (l,r')):∃ u ps,r=u ++ r'∧l=acc ++ ps∧Tail u ∧
  (∀ rest m,isW 1 [91] rest=false→40*u.length+27≤m→qv6 m (u ++ rest)=some (ps,rest)):=by
 simp only [qv1]at h
 cases ht:takeW 1 [91] r with
 | none=>
  rw [ht]at h
  cases h
  refine⟨[],[],rfl,by simp,Tail.nil,fun rest m hr hm=>?_⟩;obtain⟨m,rfl⟩:∃ q,m=q+1:=⟨m - 1,by simp at hm;omega⟩;simp only [qv6,Bo];rw [if_neg (by rw [hr];simp)]
 | some r1=>
  rw [ht]at h;simp only []at h;obtain⟨⟨e,r2⟩,h1,h2⟩:=qx h;obtain⟨r3,h3,h4⟩:=qx h2;obtain⟨o,rfl,o1,o2⟩:=qg1 ht;obtain⟨u,c,rfl,c1,c2,hg,tb,hp,hm⟩:=qj21 ih (.inr ⟨rfl,rfl⟩) o1 o2 h1 h3;obtain⟨u2,ps,rfl,hl,t2,m2⟩:=ih.preds h4;refine⟨o :: (u ++ [c]) ++ u2,e :: ps,by simp,by rw [hl];simp,tb.app t2,fun rest m hr hq=>?_⟩;simp only [Ar,AK,A8]at hq;obtain⟨m,rfl⟩:∃ q,m=q+1:=⟨m - 1,by omega⟩;rw [show o :: (u ++ [c]) ++ u2 ++ rest=o :: (u ++ c :: (u2 ++ rest)) by simp];simp only [qv6];rw [if_pos (qx11 _ o1 o2),hp];simp only []
  rw [show((o :: (u ++ c :: (u2 ++ rest))).take (u.length+1)).drop 1=u by simp,hm m (by omega),AH,
   show(o :: (u ++ c :: (u2 ++ rest))).drop (u.length+1+1)=u2 ++ rest by simp [List.drop_append],m2 rest m hr (by omega)]
  rfl
omit ih in
theorem qq13 {w:Wd} {r:List Wd} (h:qf2 (w :: r)=true) (h10:w.1≠10) (h8:w.1≠8) (h9:w.1≠9) (h6:w.1≠6):w.1=1∧w.2.1= [40]:=by
 simpa [qf2,ofW,isW,h10,h8,h9,h6]using h
theorem a_prim {r:List Wd} {e:Ex} {r':List Wd} (hb:qf2 r=true) (h:qh8 (n+1) r=some (e,r')):∃ u,r=u ++ r'∧Tail u∧u≠ []∧ ∀ rest m,40*u.length+28≤m→qi6 m (u ++ rest)=some (e,rest):=by
 cases r with
 | nil=>cases h
 | cons w r=>
  simp only [qh8]at h
  have leaf:∀ e',w.1≠1→w.1≠5→(∀ rest m,qi6 (m+1) (w :: rest)=some (e',rest))→some (e',r)=some (e,r')→ ∃ u,w :: r=u ++ r'∧Tail u∧u≠ []∧ ∀ rest m,40*u.length+28≤m→qi6 m (u ++ rest)=some (e,rest):=by
   intro e' h1 h5 hr hq
   cases hq
   refine⟨[w],rfl,qa4 h1 h5,by simp,fun rest m hm=>?_⟩;obtain⟨m,rfl⟩:∃ q,m=q+1:=⟨m - 1,by simp at hm;omega⟩;exact hr rest m
  by_cases h10:w.1=10
  ·rw [if_pos (by simp [h10])]at h;exact leaf _ (by omega) (by omega) (fun rest m=>by simp [qi6,h10]) h
  rw [if_neg (by simp [h10])]at h;by_cases h8:w.1=8
  ·rw [if_pos (by simp [h8])]at h;exact leaf _ (by omega) (by omega) (fun rest m=>by simp [qi6,h8]) h
  rw [if_neg (by simp [h8])]at h;by_cases h9:w.1=9
  ·rw [if_pos (by simp [h9])]at h;exact leaf _ (by omega) (by omega) (fun rest m=>by simp [qi6,h9]) h
  rw [if_neg (by simp [h9])]at h;by_cases h6:w.1=6
  ·rw [if_pos (by simp [h6])]at h;obtain⟨u,rfl,t,hm⟩:=ih.call h;refine⟨w :: u,rfl,(qa4 (w:=w) (by omega) (by omega)).app t,by simp,fun rest m hq=>?_⟩;rw [AK]at hq;exact hm w rest m h6 rfl (by omega)
  rw [if_neg (by simp [h6])]at h;obtain⟨⟨e1,r2⟩,h1,h2⟩:=qx h;obtain⟨r3,h3,h4⟩:=qx h2
  cases h4
  obtain⟨w1,w2⟩:=qq13 hb h10 h8 h9 h6;obtain⟨u,c,rfl,c1,c2,hg,tb,hp,hm⟩:=qj21 ih (.inl ⟨rfl,rfl⟩) w1 w2 h1 h3;refine⟨w :: (u ++ [c]),by simp,tb,by simp,fun rest m hq=>?_⟩;simp only [Ar,AK,A8]at hq;obtain⟨m,rfl⟩:∃ q,m=q+1:=⟨m - 1,by omega⟩;rw [show w :: (u ++ [c]) ++ rest=w :: (u ++ c :: rest) by simp];simp only [qi6];rw [if_neg (by simp [h10]),if_neg (by simp [h8]),if_neg (by simp [h9]),if_neg (by simp [h6]),if_pos (qx11 _ w1 w2),hp];simp only []
  rw [show((w :: (u ++ c :: rest)).take (u.length+1)).drop 1=u by simp,hm m (by omega),AH,
   show(w :: (u ++ c :: rest)).drop (u.length+1+1)=rest by simp [List.drop_append]]
theorem a_args {acc:List Ex} {r:List Wd} {l:List Ex} {r':List Wd} (h:qy6 (n+1) acc r=some (l,r')):∃ u es,r=u ++ r'∧l=acc ++ es∧qa6 [] u=some [] ∧
  ∀ v0 e0,Good 0 v0→(∀ m,40*v0.length+40≤m→rOr m v0 0=some e0)→ ∀ m,40*(v0.length+u.length)+45≤m→qg16 m (qd6 0 [] (v0 ++ u))=some (e0 :: es):=by
 simp only [qy6]at h
 cases ht:takeW 1 [44] r with
 | none=>
  rw [ht]at h
  cases h
  refine⟨[],[],rfl,by simp,rfl,fun v0 e0 hg hm m hq=>?_⟩;rw [qb9 [] hg.hit,qs7 hg.bal];obtain⟨m,rfl⟩:∃ q,m=q+2:=⟨m - 2,by omega⟩;simp only [qd6,Bo,qg16,A8]at *;rw [hm (m+1) (by omega)];rfl
 | some r1=>
  rw [ht]at h;obtain⟨⟨e,r2⟩,h1,h2⟩:=qx h;obtain⟨w,rfl,w1,w2⟩:=qg1 ht;obtain⟨v,hv,hgv,hmv⟩:=ih.bin (by omega) h1;obtain⟨u,es,h3,hl,hb,hm2⟩:=ih.args h2;have ho:qc2 w=false:=by unfold qc2;rw [w1,w2];rfl
  have hc:qn1 w=false:=by unfold qn1;rw [w1,w2];rfl
  have hn:nx 0 w=0:=by unfold nx;rw [if_neg (by rw [ho];simp),if_neg (by rw [hc];simp)]
  have h3:r2=u ++ r':=h3;refine⟨w :: (v ++ u),e :: es,by rw [hv,h3];simp,by rw [hl];simp,?_,fun v0 e0 hg hm m hq=>?_⟩
  ·simp only [qa6,ho,hc,AS,if_false];rw [qg4,hgv.bal];exact hb
  ·simp only [Ar,AK]at hq;rw [qb9 _ hg.hit,qs7 hg.bal];simp only [qd6,Bo];rw [if_pos ⟨hn,by rw [w1,w2];rfl⟩,hn];obtain⟨m,rfl⟩:∃ q,m=q+1:=⟨m - 1,by omega⟩;simp only [qg16];rw [hm m (by omega),AH,hm2 v e hgv (fun q hq=>hmv q (by omega)) m (by omega)];rfl
theorem a_call {s:List UInt8} {r:List Wd} {e:Ex} {r':List Wd} (h:qf10 (n+1) s r=some (e,r')):∃ u,r=u ++ r'∧Tail u∧ ∀ (w:Wd) rest m,w.1=6→w.2.1=s→40*u.length+28≤m→qi6 m (w :: (u ++ rest))=some (e,rest):=by
 simp only [qf10]at h;obtain⟨r1,h1,h2⟩:=qx h;obtain⟨o,rfl,o1,o2⟩:=qg1 h1;have ho:qc2 o=true:=qc7 o1 o2 (.inl rfl)
 cases ht:takeW 1 [41] r1 with
 | some r2=>
  rw [ht]at h2
  cases h2
  obtain⟨c,rfl,c1,c2⟩:=qg1 ht;have hc:qn1 c=true:=qo4 c1 c2 (.inl rfl);refine⟨[o,c],rfl,Tail.brackets ho (u:=[]) rfl hc (by rw [c2,o2];rfl),fun w rest m w6 w2 hm=>?_⟩;obtain⟨m,rfl⟩:∃ q,m=q+1:=⟨m - 1,by simp at hm;omega⟩;have hp:=qj6 (k:=0) (u:=[]) (l:=rest) ho rfl hc (by rw [c2,o2];rfl);simp only [Bo,A8]at hp;simp only [Bf,Bo,qi6];rw [if_neg (by simp [w6]),if_neg (by simp [w6]),if_neg (by simp [w6]),if_pos (by simp [w6]),if_pos (qx11 _ o1 o2),hp];simp [w2]
 | none=>
  rw [ht]at h2;simp only []at h2;obtain⟨⟨e1,r2⟩,h3,h4⟩:=qx h2;obtain⟨⟨l,r3⟩,h5,h6⟩:=qx h4;obtain⟨r4,h7,h8⟩:=qx h6
  cases h8
  obtain⟨v0,rfl,hg,hm0⟩:=ih.bin (by omega) h3;obtain⟨u,es,rfl,hl,hb,hm⟩:=ih.args h5;obtain⟨c,rfl,c1,c2⟩:=qg1 h7;have hc:qn1 c=true:=qo4 c1 c2 (.inl rfl);have hw:c.2.1=qw15 o.2.1:=by rw [c2,o2];rfl
  have hbal:qa6 [] (v0 ++ u)=some []:=by rw [qg4,hg.bal];exact hb
  refine⟨o :: ((v0 ++ u) ++ [c]),by simp,Tail.brackets ho hbal hc hw,fun w rest m w6 w2 hq=>?_⟩;simp only [Ar,AK,A8]at hq;obtain⟨m,rfl⟩:∃ q,m=q+1:=⟨m - 1,by omega⟩;rw [show o :: ((v0 ++ u) ++ [c]) ++ rest=o :: ((v0 ++ u) ++ c :: rest) by simp];have hp:=qj6 (k:=0) (l:=rest) ho hbal hc hw;have hv:=List.length_pos_iff.2 hg.ne;simp only [qi6];rw [if_neg (by simp [w6]),if_neg (by simp [w6]),if_neg (by simp [w6]),if_pos (by simp [w6]),if_pos (qx11 _ o1 o2),hp];simp only [];rw [if_neg (by rw [Ar];omega),show 0+1+(v0 ++ u).length=(v0 ++ u).length+1 by omega,take_in,drop_in,hm v0 e1 hg (fun q hq=>hm0 q (by omega)) m (by omega),AH,hl,w2];rfl
theorem a_step {r:List Wd} {s:St} {r':List Wd} (h:qv2 (n+1) r=some (s,r')):∃ u,r=u ++ r'∧Tail u∧u≠ []∧ ∀ rest m,isW 1 [91] rest=false→40*u.length+28≤m→qa13 m (u ++ rest)=some (s,rest):=by
 simp only [qv2]at h
 cases h1:takeW 1 [46] r with
 | some r1=>
  rw [h1]at h
  cases h
  obtain⟨w,rfl,w1,w2⟩:=qg1 h1;refine⟨[w],rfl,qx20 w1 (.inl w2),by simp,fun rest m _ hm=>?_⟩;obtain⟨m,rfl⟩:∃ q,m=q+1:=⟨m - 1,by simp at hm;omega⟩;simp only [Bf,Bo,qa13,take_of _ w1 w2]
 | none=>
  rw [h1]at h;simp only []at h
  cases h2:takeW 1 [46,46] r with
  | some r1=>
   rw [h2]at h
   cases h
   obtain⟨w,rfl,w1,w2⟩:=qg1 h2;refine⟨[w],rfl,qx20 w1 (.inr w2),by simp,fun rest m _ hm=>?_⟩;obtain⟨m,rfl⟩:∃ q,m=q+1:=⟨m - 1,by simp at hm;omega⟩;simp only [Bf,Bo,qa13,take_of _ w1 w2];rw [take_none.2 (by simp [isW,w1,w2])]
  | none=>
   rw [h2]at h;simp only []at h;obtain⟨⟨a,r1⟩,h3,h4⟩:=qx h;obtain⟨⟨t,r2⟩,h5,h6⟩:=qx h4;obtain⟨⟨ps,r3⟩,h7,h8⟩:=qx h6
   cases h8
   obtain⟨u,rfl,tu,hn,hd,hdd,hh⟩:=qk20 h3 h5;obtain⟨u2,qs,rfl,hl,t2,hm⟩:=ih.preds h7;rw [Bo]at hl;subst hl;refine⟨u ++ u2,by simp,tu.app t2,by simp [hn],fun rest m hr hq=>?_⟩;rw [Ar]at hq;obtain⟨m,rfl⟩:∃ q,m=q+1:=⟨m - 1,by omega⟩;obtain⟨x,hx1,hx2⟩:=hh (u2 ++ rest);rw [List.append_assoc];simp only [qa13];rw [take_none.2 (by rw [qc11 hn];exact hd)];simp only [];rw [take_none.2 (by rw [qc11 hn];exact hdd)];simp only [];rw [hx1,AH];simp only [];rw [hx2,AH];simp only [];rw [hm rest m hr (by omega),AH]
end
theorem qj3:∀ n,AllA n
 | 0=>⟨fun _ h=>(by cases h),fun _ _ _ h=>(by cases h),fun h=>(by cases h),fun h=>(by cases h),fun _ _ h=>(by cases h),fun h=>(by cases h),fun h=>(by cases h),fun h=>(by cases h),fun _ h=>(by cases h),fun h=>(by cases h),fun _ h=>(by cases h),fun h=>(by cases h),fun h=>(by cases h),fun h=>(by cases h)⟩
 | n+1=>⟨a_bin (qj3 n),a_loop (qj3 n),qb25 (qj3 n),a_union (qj3 n),a_uloop (qj3 n),a_path (qj3 n),a_more (qj3 n),a_loc (qj3 n),qc25 (qj3 n),a_preds (qj3 n),a_prim (qj3 n),a_call (qj3 n),a_args (qj3 n),a_step (qj3 n)⟩
end Go.Proofs.YtocdckniokhbbaaGreatDoor.Syn
namespace Go.Proofs.YtocdckniokhbbaaGreatDoor.Syn
open LexA
def qf3 (s:List UInt8):Ex × Int:=
 if(qi10 s).2=0 then(if qp9 0 (qi10 s).1=true then(ex0,34)else match qj5 (qi10 s).1 with | some e=>(e,0) | none=>(ex0,31))else(ex0,(qi10 s).2)
end Go.Proofs.YtocdckniokhbbaaGreatDoor.Syn
namespace Go.Proofs.YtocdckniokhbbaaGreatDoor.Syn
open LexA SpanA CharB CharD
def funcsL:List (List UInt8 × Int × Int × Bool × Int):=[
 ([108,97,115,116],0,0,false,3),
 ([112,111,115,105,116,105,111,110],0,0,false,3),
 ([99,111,117,110,116],1,1,true,3),
 ([115,117,109],1,1,true,3),
 ([108,111,99,97,108,45,110,97,109,101],0,1,true,4),
 ([110,97,109,101],0,1,true,4),
 ([110,97,109,101,115,112,97,99,101,45,117,114,105],0,1,true,4),
 ([115,116,114,105,110,103],0,1,false,4),
 ([110,111,114,109,97,108,105,122,101,45,115,112,97,99,101],0,1,false,4),
 ([99,111,110,99,97,116],2,120,false,4),
 ([115,116,97,114,116,115,45,119,105,116,104],2,2,false,2),
 ([99,111,110,116,97,105,110,115],2,2,false,2),
 ([115,117,98,115,116,114,105,110,103,45,98,101,102,111,114,101],2,2,false,4),
 ([115,117,98,115,116,114,105,110,103,45,97,102,116,101,114],2,2,false,4),
 ([115,117,98,115,116,114,105,110,103],2,3,false,4),
 ([116,114,97,110,115,108,97,116,101],3,3,false,4),
 ([115,116,114,105,110,103,45,108,101,110,103,116,104],0,1,false,3),
 ([98,111,111,108,101,97,110],1,1,false,2),
 ([110,111,116],1,1,false,2),
 ([108,97,110,103],1,1,false,2),
 ([116,114,117,101],0,0,false,2),
 ([102,97,108,115,101],0,0,false,2),
 ([110,117,109,98,101,114],0,1,false,3),
 ([102,108,111,111,114],1,1,false,3),
 ([99,101,105,108,105,110,103],1,1,false,3),
 ([114,111,117,110,100],1,1,false,3)]
def ql2 (s:List UInt8):Option (Int × Int × Bool × Int):=(funcsL.find? (fun o=>o.1 == s)).map (·.2)
def qe6 (s:List UInt8):Bool:=qc10 (ba s) && (!s.contains 34 || !s.contains 39)
def typesN:List (List UInt8):=[qi2,qj7,tPI,[110,111,100,101]]
def qo12 (k:Int) (n:List UInt8) (h:Bool):Bool:=if k=1 then !n.isEmpty && !h else if k=6 then h || n.isEmpty else if k=2∨k=3∨k=4∨k=5 then n.isEmpty && !h else false
def decE (t v:Int):Bool:=if t=0 then !(v == -9223372036854775808)else if t=1∨t=2∨t=3 then v == 0 else false
def qr3 (s:List UInt8) (v t:Int) (abs:Bool) (m:Nat) (a b c:Bool):Bool:=(a || s.isEmpty) && (b || v == 0 && t == 0) && (c || !abs && m == 0)
def qi5 (abs:Bool) (k m:Nat):Bool:= !(decide (1<k) || k == 1 && abs || m == 0 && (k == 1 || !abs))
mutual
def qt3:Ex→Bool
 | .mk op s v t abs kids steps=>
  (if 1≤op∧op≤14 then kids.length == 2 && qr3 s v t abs steps.length false false false
  else if op=15 then kids.length == 1 && qr3 s v t abs steps.length false false false
  else if op=16 then qr3 s v t abs steps.length false false true && (qi5 abs kids.length steps.length && qz2 steps)
  else if op=17 then decide (2≤kids.length) && qr3 s v t abs steps.length false false false
  else if op=18 then kids.length == 0 && qr3 s v t abs steps.length true false false && qe6 s
  else if op=19 then kids.length == 0 && qr3 s v t abs steps.length false true false && decE v t && v == 0 && decide (0≤t)
  else if op=21 then kids.length == 0 && qr3 s v t abs steps.length true false false && qf4 (ba s)
  else if op=20 then qr3 s v t abs steps.length true false false && qf4 (ba s) && !typesN.contains s
  else false) && qx9 kids
def qx9:List Ex→Bool
 | []=>true
 | e :: l=>qt3 e && qx9 l
def ql18:St→Bool
 | .mk axis kind name has preds=>decide (1≤axis) && decide (axis≤12) && qo12 kind name has && !(kind == 1 && !qf4 (ba name) || kind == 6 && !qe6 name) && qx9 preds
def qz2:List St→Bool
 | []=>true
 | s :: l=>ql18 s && qz2 l
end
mutual
def qw1:Ex→Nat→Except Int Int
 | .mk op s v t abs kids steps,k=>
  if op=21 then .error 32
  else if op=20 then(match ql2 s with
   | none=> .error 32
   | some f=>if(kids.length:Int)<f.1∨f.2.1<(kids.length:Int)then .error 33 else(qy2 kids k).bind fun ts=>if f.2.2.1=true∧ts.all (· == 1)=false then .error 35 else .ok f.2.2.2)
  else if op=17 then qc8 kids k
  else(qy2 kids k).bind fun ts=>if(op=14∨op=16)∧ts.all (· == 1)=false then .error 35 else(qu2 steps k).bind fun _=> .ok (if op=14∨op=16 then 1 else if op≤8 then 2 else if op=18 then 4 else 3)
def qc8:List Ex→Nat→Except Int Int
 | [],_=> .ok 1
 | e :: l,k=>(qw1 e k).bind fun t=>if t=1 then(qz3 l k).bind fun _=> .ok 1 else .error 35
def qy2:List Ex→Nat→Except Int (List Int)
 | [],_=> .ok []
 | e :: l,k=>(qw1 e k).bind fun t=>(qy2 l k).bind fun ts=> .ok (t :: ts)
def qz3:List Ex→Nat→Except Int Unit
 | [],_=> .ok ()
 | e :: l,k=>if 2≤k then .error 34 else(qw1 e (k+1)).bind fun _=>qz3 l k
def qu2:List St→Nat→Except Int Unit
 | [],_=> .ok ()
 | .mk _ _ _ _ preds :: l,k=>(qz3 preds k).bind fun _=>qu2 l k
end
def qk11 (e:Ex):Int × Int:=if qt3 e=true then(match qw1 e 0 with | .ok t=>(t,0) | .error n=>(0,n))else(0,2)
def qy1 (s:List UInt8):Ex × Int × Int:=if(qf3 s).2=0 then(if(qk11 (qf3 s).1).2=0 then((qf3 s).1,(qk11 (qf3 s).1).1,0)else(ex0,0,(qk11 (qf3 s).1).2))else(ex0,0,(qf3 s).2)
def qx17:Ex→Int
 | .mk op s _ _ _ _ _=>if op≤8 then 2 else if op≤13∨op=15∨op=19 then 3 else if op=18 then 4 else if op=20 then(match ql2 s with | some f=>f.2.2.2 | none=>0)else 1
theorem qa3 {α β:Type} {x:Except Int α} {f:α→Except Int β} {y:β} (h:x.bind f= .ok y):∃ a,x= .ok a∧f a= .ok y:=by
 cases x with
 | error n=>cases h
 | ok a=>exact⟨a,rfl,h⟩
theorem qr20 {l:List Ex} {k:Nat} {t:Int} (h:qc8 l k= .ok t):t=1:=by
 cases l with
 | nil=>simp only [qc8]at h;cases h;rfl
 | cons e l=>
  simp only [qc8]at h;obtain⟨a,_,h⟩:=qa3 h
  split at h
  ·obtain⟨_,_,h⟩:=qa3 h;cases h;rfl
  ·cases h
theorem qa18 {e:Ex} {k:Nat} {t:Int} (hr:qt3 e=true) (h:qw1 e k= .ok t):t=qx17 e:=by
 obtain⟨op,s,v,n,abs,kids,steps⟩:=e;simp only [qt3,AF]at hr
 have hop:1≤op∧op≤21:=by
  have h1:=hr.1
  split at h1;· omega
  split at h1;· omega
  split at h1;· omega
  split at h1;· omega
  split at h1;· omega
  split at h1;· omega
  split at h1;· omega
  split at h1;· omega
  cases h1
 clear hr;simp only [qw1]at h;unfold qx17;dsimp only
 split at h
 ·cases h
 split at h
 ·rename_i h1 h2
  subst h2;simp only [show ¬ ((20:Int)≤8) by decide,show ¬ ((20:Int)≤13∨(20:Int)=15∨(20:Int)=19) by decide,show ¬ ((20:Int)=18) by decide,if_false,if_true]
  cases hf:ql2 s with
  | none=>rw [hf]at h;cases h
  | some f=>
   rw [hf]at h;simp only at h ⊢
   split at h
   ·cases h
   obtain⟨ts,_,h⟩:=qa3 h
   split at h
   ·cases h
   ·cases h;rfl
 split at h
 ·rename_i h1 h2 h3
  subst h3;rw [qr20 h];simp
 ·rename_i h1 h2 h3
  obtain⟨ts,_,h⟩:=qa3 h
  split at h
  ·cases h
  obtain⟨_,_,h⟩:=qa3 h
  cases h
  by_cases a:op=14∨op=16
  ·rw [if_pos a,if_neg (by omega),if_neg (by omega),if_neg (by omega),if_neg (by omega)]
  ·rw [if_neg a];by_cases b:op≤8
   ·rw [if_pos b,if_pos b]
   ·rw [if_neg b,if_neg b];by_cases c:op=18
    ·rw [if_pos c,if_neg (by omega),if_pos c]
    ·rw [if_neg c,if_pos (by omega)]
end Go.Proofs.YtocdckniokhbbaaGreatDoor.Syn
namespace Go.Proofs.YtocdckniokhbbaaGreatDoor.FigD
open Go.RowKit Go.Shelf YtocdckniokhbbaaGreatDoorW.PrintWords YtocdckniokhbbaaGreatDoorW.PrintLast YtocdckniokhbbaaGreatDoorW.PrintMore CharB CharD SpanA FigA FigC
theorem qb1 {W:World} {b:Nat} {cs:Array Value} {t:TypeId} (h:W.heap[b]?=some (Af cs t (0,0))) (j:Nat):W.cell? ⟨b,j,none⟩=cs[j]? :=Ai h j
def Cell (b:Nat) (v:Value) (t:TypeId) (W:World):Prop:=W.heap[b]?=some (Af #[v] t (0,0))
theorem Cell.at {b:Nat} {v:Value} {t:TypeId} {W:World} (h:Cell b v t W):W.cell? ⟨b,0,none⟩=some v:=by rw [qb1 h];rfl
theorem Cell.free {b:Nat} {v:Value} {t:TypeId} {W:World} (h:Cell b v t W):W.frozen? ⟨b,0,none⟩=false:=Bd h 0
theorem Cell.set {b:Nat} {v u:Value} {t:TypeId} {W:World} (h:Cell b v t W):Cell b u t (W.setCell ⟨b,0,none⟩ u):=by
 unfold Cell at h ⊢;obtain⟨hlt,hk⟩:=An.1 h;show(W.heap.modify b _)[b]?=_;rw [Array.getElem?_eq_getElem (by rw [Array.size_modify];exact hlt),Array.getElem_modify_self,hk];rfl
theorem Cell.other {b c:Nat} {v u:Value} {t:TypeId} {W:World} (h:Cell b v t W) (hne:c≠b):Cell b v t (W.setCell ⟨c,0,none⟩ u):=by
 unfold Cell at h ⊢;rw [AX _ _ _ b (fun e=>hne (by simpa using e.symm))];exact h
theorem qe5 (p:UInt8→Bool) (l:List UInt8) (k:Nat) (hk:k≤l.length) (h:(l.take k).all p=true) (hs:(h':k<l.length)→p l[k]=false):l.takeWhile p=l.take k∧l.dropWhile p=l.drop k:=by
 have h2:(l.drop k).head?.map p≠some true:=by
  by_cases h':k<l.length
  ·rw [List.drop_eq_getElem_cons h',List.head?_cons,Option.map_some,hs h'];simp
  ·rw [List.drop_eq_nil_of_le (by omega)];simp
 have:=qm4 (l.take k) (l.drop k) h h2;rw [List.take_append_drop]at this;exact this
theorem qe12 (p:UInt8→Bool) (l:List UInt8) (k:Nat) (hk:k<l.length) (h:(l.take k).all p=true) (hp:p l[k]=true):(l.take (k+1)).all p=true:=by
 rw [List.take_succ_eq_append_getElem hk,List.all_append,h];simp [hp]
theorem qw16 (c:UInt8) (w:World):Calls Aj 146 #[.int .u8 (c.toNat:Int)] w fun e w'=>e= .returned (Ae (qb2 c))∧w=w':=by
 by_cases h1:48≤c.toNat
 ·have d1:decide ((48:Int)≤(c.toNat:Int))=true:=by simp;omega
  by_cases h2:c.toNat≤57
  ·have d2:decide ((c.toNat:Int)≤(57:Int))=true:=by simp;omega
   rw [(qm3 c).2 ⟨h1,h2⟩];clear h1 h2;go_enter Tryz.func146,Tryz.ntmps146;go_wp2;go_ret;exact⟨rfl,rfl⟩
  ·have d2:decide ((c.toNat:Int)≤(57:Int))=false:=by simp;omega
   rw [show qb2 c=false by cases h:qb2 c with | false=>rfl | true=>exact absurd ((qm3 c).1 h).2 h2];clear h1 h2;go_enter Tryz.func146,Tryz.ntmps146;go_wp2;go_ret;exact⟨rfl,rfl⟩
 ·have d1:decide ((48:Int)≤(c.toNat:Int))=false:=by simp;omega
  rw [show qb2 c=false by cases h:qb2 c with | false=>rfl | true=>exact absurd ((qm3 c).1 h).1 h1];clear h1;go_enter Tryz.func146,Tryz.ntmps146;go_wp2;go_ret;exact⟨rfl,rfl⟩
theorem qx24 (c:UInt8) (w:World):Calls Aj 147 #[.int .u8 (c.toNat:Int)] w fun e w'=>e= .returned (Ae true)∧w=w':=by
 go_enter Tryz.func147,Tryz.ntmps147;go_wp2;go_ret;exact⟨rfl,rfl⟩
def dotB (c:UInt8):Bool:=c == 46
theorem qk24 (c:UInt8):((c.toNat:Int) == 46)=dotB c:=by
 unfold dotB;have:∀ n:Fin 256,(((UInt8.ofNat n.1).toNat:Int) == 46)=(UInt8.ofNat n.1 == 46):=by decide +kernel
 have:=this ⟨c.toNat,c.toNat_lt⟩;simpa using this
theorem qw10 (f:Bool) (c:UInt8) (b:Nat) (w:World) (h:Cell b (Ae f) 4 w):Calls Aj 145 #[.int .u8 (c.toNat:Int),.pointer (some ⟨b,0,none⟩)] w fun e w'=>e= .returned (Ae (f && dotB c))∧w'=w.setCell ⟨b,0,none⟩ (Ae false):=by
 have c0:=h.at;have f0:=h.free;have hd:=qk24 c;clear h
 cases f with
 | false=>
  clear hd;go_enter Tryz.func145,Tryz.ntmps145;go_wp2;go_ret;exact⟨rfl,rfl⟩
 | true=>
  cases hx:dotB c with
  | false=>
   rw [hx]at hd;clear hx;go_enter Tryz.func145,Tryz.ntmps145;go_wp2;go_ret;exact⟨rfl,rfl⟩
  | true=>
   rw [hx]at hd;clear hx;go_enter Tryz.func145,Tryz.ntmps145;go_wp2;go_ret;exact⟨rfl,rfl⟩
theorem ql10 (s:ByteArray) (b:Nat) (w:World) (hs:s.size≤1000000000) (h:Cell b (Ac s) 9 w) :
  Calls Aj 184 #[.func (.func 146) #[] #[],.pointer (some ⟨b,0,none⟩)] w fun e w'=>e= .returned (Ac (ba (s.data.toList.takeWhile qb2)))∧w'=w.setCell ⟨b,0,none⟩ (Ac (ba (s.data.toList.dropWhile qb2))):=by
 have c0:=h.at;have f0:=h.free;clear h;obtain⟨R1,hR1⟩:∃ R,ba (s.data.toList.takeWhile qb2)=R:=⟨_,rfl⟩;obtain⟨R2,hR2⟩:∃ R,ba (s.data.toList.dropWhile qb2)=R:=⟨_,rfl⟩;rw [hR1,hR2];have H1:=Aside0.mk hR1;have H2:=Aside0.mk hR2;clear hR1 hR2;have hlen:s.data.toList.length≤s.size∧s.size≤s.data.toList.length:=by rw [← Bh];exact⟨Ag _,Ag _⟩
 go_enter Tryz.func184,Tryz.ntmps184;go_wp2;go_loop [4] (fun i=>∃ k:Nat,i= Aa Ab (k:Int)∧Aside0 (k≤s.size)∧Aside0 ((s.data.toList.take k).all qb2=true)) (fun i=>s.size - (intOf i).toNat)
 case atStart=>exact⟨0,rfl,⟨Ba _⟩,⟨rfl⟩⟩
 case round=>
  obtain⟨k,rfl,HK,HA⟩:=hrel;have hk:=HK.out;by_cases hlt:k<s.size
  ·have hlt':k<s.data.toList.length:=by omega
   have hc:=qw16 (s[k]'hlt) w
   cases hd:qb2 (s[k]'hlt)with
   | true=>
    have hd2:=Aside0.mk hd;rw [hd]at hc;clear hd;go_wp2_with fail
    refine hc.mono ?_;rintro e w' ⟨rfl,rfl⟩;go_wp2_with fail
    go_round
    case rel=>exact⟨k+1,by go_num,⟨by omega⟩,⟨qe12 _ _ k hlt' HA.out hd2.out⟩⟩
    case measure=>simp [intOf];omega
   | false=>
    have hst:=qe5 qb2 s.data.toList k (by omega) HA.out (fun _=>hd);rw [hd]at hc;have e1:R1=s.extract 0 k:=by rw [← H1.out,hst.1];exact qe2 (by rw [qo1,qe1];simp)
    have e2:R2=s.extract k s.size:=by rw [← H2.out,hst.2];exact qe2 zbg
    subst e1 e2;clear hd hst H1 H2;go_wp2_with fail
    refine hc.mono ?_;rintro e w' ⟨rfl,rfl⟩;go_wp2_with fail
    go_ret;exact⟨rfl,rfl⟩
  ·have hst:=qe5 qb2 s.data.toList k (by omega) HA.out (fun h=>absurd h (by omega));obtain rfl:k=s.size:=by omega
   have e1:R1=s.extract 0 s.size:=by rw [← H1.out,hst.1];exact qe2 (by rw [qo1,qe1];simp)
   have e2:R2=s.extract s.size s.size:=by rw [← H2.out,hst.2];exact qe2 zbg
   subst e1 e2;clear hst H1 H2;go_wp2_with fail
   go_ret;exact⟨rfl,rfl⟩
theorem qx14 (s:ByteArray) (b:Nat) (w:World) (hs:s.size≤1000000000) (h:Cell b (Ac s) 9 w) :
  Calls Aj 184 #[.func (.func 147) #[] #[],.pointer (some ⟨b,0,none⟩)] w fun e w'=>e= .returned (Ac (ba (s.data.toList.takeWhile (fun _=>true))))∧w'=w.setCell ⟨b,0,none⟩ (Ac (ba (s.data.toList.dropWhile (fun _=>true)))):=by
 have c0:=h.at;have f0:=h.free;clear h;obtain⟨R1,hR1⟩:∃ R,ba (s.data.toList.takeWhile (fun _=>true))=R:=⟨_,rfl⟩;obtain⟨R2,hR2⟩:∃ R,ba (s.data.toList.dropWhile (fun _=>true))=R:=⟨_,rfl⟩;rw [hR1,hR2];have H1:=Aside0.mk hR1;have H2:=Aside0.mk hR2;clear hR1 hR2;have hlen:s.data.toList.length≤s.size∧s.size≤s.data.toList.length:=by rw [← Bh];exact⟨Ag _,Ag _⟩
 go_enter Tryz.func184,Tryz.ntmps184;go_wp2;go_loop [4] (fun i=>∃ k:Nat,i= Aa Ab (k:Int)∧Aside0 (k≤s.size)∧Aside0 ((s.data.toList.take k).all (fun _=>true)=true)) (fun i=>s.size - (intOf i).toNat)
 case atStart=>exact⟨0,rfl,⟨Ba _⟩,⟨rfl⟩⟩
 case round=>
  obtain⟨k,rfl,HK,HA⟩:=hrel;have hk:=HK.out;by_cases hlt:k<s.size
  ·have hlt':k<s.data.toList.length:=by omega
   have hc:=qx24 (s[k]'hlt) w
   cases hd:(fun _=>true) (s[k]'hlt)with
   | true=>
    have hd2:=Aside0.mk hd
    skip
    clear hd;go_wp2_with fail
    refine hc.mono ?_;rintro e w' ⟨rfl,rfl⟩;go_wp2_with fail
    go_round
    case rel=>exact⟨k+1,by go_num,⟨by omega⟩,⟨qe12 _ _ k hlt' HA.out rfl⟩⟩
    case measure=>simp [intOf];omega
   | false=>cases hd
  ·have hst:=qe5 (fun _=>true) s.data.toList k (by omega) HA.out (fun h=>absurd h (by omega));obtain rfl:k=s.size:=by omega
   have e1:R1=s.extract 0 s.size:=by rw [← H1.out,hst.1];exact qe2 (by rw [qo1,qe1];simp)
   have e2:R2=s.extract s.size s.size:=by rw [← H2.out,hst.2];exact qe2 zbg
   subst e1 e2;clear hst H1 H2;go_wp2_with fail
   go_ret;exact⟨rfl,rfl⟩
def dotL (s:List UInt8):List UInt8:=if s.head?=some 46 then [46]else []
def dotR (s:List UInt8):List UInt8:=if s.head?=some 46 then s.tail else s
theorem qz11 (c:UInt8):dotB c=true↔c=46:=by unfold dotB;simp
theorem qa16 (s:ByteArray) (b c B:Nat) (w:World) (hs:s.size≤1000000000) (h:Cell b (Ac s) 9 w) (hc:Cell c (Ae true) 4 w) (hne:c≠b) (hb:B≤b) (hcB:B≤c) :
  Calls Aj 184 #[.func (.func 145) #[] #[.pointer (some ⟨c,0,none⟩)],.pointer (some ⟨b,0,none⟩)] w fun e w'=>e= .returned (Ac (ba (dotL s.data.toList)))∧Cell b (Ac (ba (dotR s.data.toList))) 9 w'∧Below B w w':=by
 obtain⟨R1,hR1⟩:∃ R,ba (dotL s.data.toList)=R:=⟨_,rfl⟩;obtain⟨R2,hR2⟩:∃ R,ba (dotR s.data.toList)=R:=⟨_,rfl⟩;rw [hR1,hR2];have hB0:=Aside0.mk (Ao B w);have HC:=Aside0.mk h;by_cases hz:0<s.size
 ·have hz':0<s.data.toList.length:=by rw [← Bh];exact hz
  have hsp:s.data.toList=s[0]'hz :: s.data.toList.drop 1:=by
   have:=List.drop_eq_getElem_cons hz';rw [List.drop_zero]at this;exact this
  have hp0:=qw10 true (s[0]'hz) c w hc
  cases hd:dotB (s[0]'hz)with
  | false=>
   rw [hd]at hp0;have hne46:¬ s.data.toList.head?=some 46:=by rw [hsp];simp;intro q;rw [(qz11 _).2 q]at hd;cases hd
   have e1:R1=ByteArray.empty:=by rw [← hR1];unfold dotL;rw [if_neg hne46];rfl
   have e2:s=R2:=by rw [← hR2];unfold dotR;rw [if_neg hne46];rfl
   subst e1 e2;have HB1:=Aside0.mk (((Ao B w).setCell (p:=⟨c,0,none⟩) hcB (Ae false)).setCell (p:=⟨b,0,none⟩) hb (Ac s));have HC1:=Aside0.mk ((h.other (c:=c) (u:= Ae false) hne).set (u:= Ac s));have c0:=h.at;have hb1:=h.other (c:=c) (u:= Ae false) hne;have c1:=hb1.at;have f1:=hb1.free;clear hR1 hR2 hsp hd hne46 h hc hb1;go_enter Tryz.func184,Tryz.ntmps184;go_wp2;go_loop [4] (fun i=>i= Aa Ab 0) (fun _=>0)
   case atStart=>rfl
   case round=>
    obtain rfl:=hrel;go_wp2_with fail
    refine hp0.mono ?_;rintro e w' ⟨rfl,rfl⟩;go_wp2_with fail
    go_ret;exact⟨rfl,HC1.out,HB1.out⟩
  | true=>
   rw [hd]at hp0;have h46:s.data.toList.head?=some 46:=by rw [hsp];simp;exact(qz11 _).1 hd
   have e1:R1=s.extract 0 1:=by rw [← hR1];unfold dotL;rw [if_pos h46];exact qe2 (by rw [qo1,qe1,hsp];simp [(qz11 _).1 hd])
   have e2:R2=(if 1<s.size then s.extract 1 s.size else ByteArray.empty):=by
    rw [← hR2];unfold dotR;rw [if_pos h46]
    split
    ·exact qe2 (by rw [qo1,qe1,List.take_of_length_le (by rw [List.length_drop,← Bh];omega),List.drop_one])
    ·rw [List.eq_nil_of_length_eq_zero (l:=s.data.toList.tail) (by rw [List.length_tail,← Bh];omega)];rfl
   subst e1;have hB1:=(Ao B w).setCell (p:=⟨c,0,none⟩) hcB (Ae false);have hb1:=h.other (c:=c) (u:= Ae false) hne;have hb2:=hb1.other (c:=c) (u:= Ae false) hne;have c0:=h.at;have c1:=hb1.at;have f1:=hb1.free;have c2:=hb2.at;have f2:=hb2.free;have hp1:=fun d=>qw10 false d c (w.setCell ⟨c,0,none⟩ (Ae false)) hc.set;have HB1:=Aside0.mk (hB1.setCell (p:=⟨b,0,none⟩) hb (Ac R2));have HB2:=Aside0.mk ((hB1.setCell (p:=⟨c,0,none⟩) hcB (Ae false)).setCell (p:=⟨b,0,none⟩) hb (Ac R2));have HC1:=Aside0.mk (hb1.set (u:= Ac R2));have HC2:=Aside0.mk (hb2.set (u:= Ac R2));clear hR1 hR2 hsp hd h46 h hc hb1 hb2 hB1;have HE:=Aside0.mk e2;clear e2;go_enter Tryz.func184,Tryz.ntmps184;go_wp2;go_loopg [4] 1 (fun kq v4 w'=>(kq=1∧v4= Aa Ab 0∧w'=w)∨(kq=0∧v4= Aa Ab 1∧w'=w.setCell ⟨c,0,none⟩ (Ae false)))
   case atStart=>exact .inl ⟨rfl,rfl,rfl⟩
   case round=>
    rcases hrel with ⟨rfl,rfl,rfl⟩ | ⟨rfl,rfl,rfl⟩
    ·go_wp2_with fail
     refine hp0.mono ?_;rintro e w' ⟨rfl,rfl⟩;go_wp2_with fail
     go_roundg 0
     case measure=>omega
     case rel=>exact .inr ⟨rfl,rfl,rfl⟩
    ·by_cases h1:1<s.size
     ·have e2:=HE.out;rw [if_pos h1]at e2;subst e2;have hp2:=hp1 (s[1]'h1);clear hp1 hp0;go_wp2_with fail
      refine hp2.mono ?_;rintro e w' ⟨rfl,rfl⟩;go_wp2_with fail
      go_ret;exact⟨rfl,HC2.out,HB2.out⟩
     ·have e2:=HE.out;rw [if_neg h1]at e2;subst e2;have h2:s.size=1:=by omega
      clear HE;clear hp1 hp0;go_wp2_with fail
      go_ret;exact⟨rfl,HC1.out,HB1.out⟩
 ·have hnil:s.data.toList= []:=List.length_eq_zero_iff.1 za3;have e1:R1=ByteArray.empty:=by rw [← hR1,hnil];rfl
  have e2:s=R2:=by rw [← hR2,hnil];exact qe2 (by rw [hnil];rfl)
  subst e1 e2;have HB1:=Aside0.mk ((Ao B w).setCell (p:=⟨b,0,none⟩) hb (Ac s));have HC1:=Aside0.mk (h.set (u:= Ac s));have c0:=h.at;have f0:=h.free;clear hR1 hR2 hnil h hc;go_enter Tryz.func184,Tryz.ntmps184;go_wp2;go_loop [4] (fun i=>i= Aa Ab 0) (fun _=>0)
  case atStart=>rfl
  case round=>
   obtain rfl:=hrel;go_wp2_with fail
   go_ret;exact⟨rfl,HC1.out,HB1.out⟩
def qp2 (s:List UInt8):List UInt8 × List UInt8 × Bool:=
 let r:=s.dropWhile qb2
 let a:=s.takeWhile qb2
 let b:=if r.head?=some 46 then r.tail.takeWhile qb2 else []
 let z:=if r.head?=some 46 then r.tail.dropWhile qb2 else r
 (a,b,z.isEmpty && (!a.isEmpty || !b.isEmpty))
theorem qz15 (s:ByteArray) (w:World):Calls Aj 144 #[Ac s] w fun e w'=>e= .returned (.func (.func 184) #[] #[.pointer (some ⟨w.heap.size,0,none⟩)])∧w'=w.alloc (Af #[Ac s] 9):=by
 go_enter Tryz.func144,Tryz.ntmps144;go_wp2;go_ret;exact⟨rfl,rfl⟩
end Go.Proofs.YtocdckniokhbbaaGreatDoor.FigD
