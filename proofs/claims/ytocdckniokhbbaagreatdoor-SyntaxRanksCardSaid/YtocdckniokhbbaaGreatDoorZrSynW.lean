import Derived.Test.YtocdckniokhbbaaGreatDoorZrZz
import Derived.Test.YtocdckniokhbbaaGreatDoorZrFc
import Derived.Test.YtocdckniokhbbaaGreatDoorZrSynV
set_option linter.unusedVariables false
set_option linter.unusedSimpArgs false
open Go.Proofs.Tryz renaming prog→Am,underlying28→AL
open Go.Value renaming int→Aa,string→Ac,slice→Ad,bool→Ae
open Go.IntKind renaming i64→Ab
open Nat renaming le_refl→Ag,le_of_lt→Ah
open Go.Obj renaming cells→Af
open Go.RowKit.Below renaming refl→Ao
open List renaming length_append→Aq
open Option renaming bind_some→Ay
open Array renaming getElem?_eq_some_iff→An
open Go.Lib renaming cell_of_heap→Ai
open And renaming intro→AZ
set_option maxHeartbeats 8000000
set_option maxRecDepth 100000
namespace Go.Proofs.YtocdckniokhbbaaGreatDoor.Syn
open Go.RowKit Go.Shelf YtocdckniokhbbaaGreatDoorW.PrintWords YtocdckniokhbbaaGreatDoorW.PrintLast YtocdckniokhbbaaGreatDoorW.PrintMore CharB SpanA FigD LexA LexF
theorem Ans.some {p:Nat} {A:Option Addr} {cap:Nat} {l:List Wd} {f:FuncId} {args:Array Value} {W:World} {x:Ex} {r:List Wd} (h:Calls Am f args W (Ans p A cap l W (isE W.heap.size) (some (x,r)))) :
  Calls Am f args W fun e w'=>∃ F op s d t b A1 n1 c1 A2 n2 c2,e= .returned (.agg #[Aa Ab op,Ac s,Aa Ab d,Aa Ab t,Ae b,Ad A1 n1 c1,Ad A2 n2 c2])∧RepE F w' x [Aa Ab op,Ac s,Aa Ab d,Aa Ab t,Ae b,Ad A1 n1 c1,Ad A2 n2 c2]∧(∀ k,F k→W.heap.size≤k∧k<w'.heap.size)∧PB p A cap l r w'∧Fr p W.heap.size W w':=
 h.mono fun e w' ⟨hf,v,he,hE,hP⟩=>by
  obtain⟨F,op,s,d,t,b,A1,n1,c1,A2,n2,c2,rfl,hR,hFl⟩:=hE.open;exact⟨F,op,s,d,t,b,A1,n1,c1,A2,n2,c2,he,hR,hFl,hP,hf⟩
theorem Ans.none {α:Type} {p:Nat} {A:Option Addr} {cap:Nat} {l:List Wd} {f:FuncId} {args:Array Value} {W:World} {R:World→α→Value→Prop} (h:Calls Am f args W (Ans p A cap l W R none)) (v:Value) :
  Calls Am f args W fun e w'=>(e=qu1∧Fr p W.heap.size W w')∨(e= .returned v∧w'=W∧Aside0 False):=h.mono fun e w' ⟨hf,he⟩=> .inl ⟨he,hf⟩
theorem RepE.drewN {F:Nat→Prop} {w:World} {e:Ex} {cs:List Value} (m:Nat) (h:RepE F w e cs):RepE F (w.drewN m) e cs:=RepE.keeps (w:=w) (w':=w.drewN m) ⟨Ag _,fun _ _ _=>rfl⟩ h
theorem RepE.two {F F3:Nat→Prop} {w3:World} {x x2:Ex} {cs cs':List Value} (op:Int) (t:TypeId) (h1:RepE F w3 x cs) (h2:RepE F3 w3 x2 cs') :
  RepE (fun k=>F k∨F3 k∨k=w3.heap.size) (w3.alloc (Af (cs ++ cs').toArray t)) (mkW op [x,x2]) [Aa Ab op,Ac ⟨#[]⟩,Aa Ab 0,Aa Ab 0,Ae false,Ad (some ⟨w3.heap.size,0,none⟩) 2 2,Ad none 0 0]:=by
 have B:=(Ao w3.heap.size w3).alloc (Ag _) (Af (cs ++ cs').toArray t);have hr:=RepR.app (RepR.one ((h1.keeps (Keeps.of_below B)).mono (G:=fun k=>F k∨F3 k∨k=w3.heap.size) fun k hk=> .inl hk)) (RepR.one ((h2.keeps (Keeps.of_below B)).mono (G:=fun k=>F k∨F3 k∨k=w3.heap.size) fun k hk=> .inr (.inl hk)));have hw:=Row.blk (F:=fun k=>F k∨F3 k∨k=w3.heap.size) (.inr (.inr rfl)) (qm w3 (Af (cs ++ cs').toArray t));exact RepE.mk' op [] 0 0 false rfl (Ag _) hr (by simpa using hw) rfl (Ag _) (RepT.nil _ _) (Row.nil _ _ _)
theorem RepE.drew {F:Nat→Prop} {w:World} {e:Ex} {cs:List Value} (h:RepE F w e cs):RepE F w.drew e cs:=RepE.keeps (w:=w) (w':=w.drew) ⟨Ag _,fun _ _ _=>rfl⟩ h
def UB (p:Nat) (A:Option Addr) (cap:Nat) (l:List Wd) (w:World) (eb:Nat) (R:Option (Ex × List Wd)) (kq:Nat) (W:World):Prop:=
 ∃ F op s d t b A1 n1 c1 A2 n2 c2 x r,W.heap[eb]?=some (Af #[Aa Ab op,Ac s,Aa Ab d,Aa Ab t,Ae b,Ad A1 n1 c1,Ad A2 n2 c2] 28 (0,0))∧RepE F W x [Aa Ab op,Ac s,Aa Ab d,Aa Ab t,Ae b,Ad A1 n1 c1,Ad A2 n2 c2]∧(∀ k,F k→w.heap.size<k∧k<W.heap.size∧k≠eb)∧PB p A cap l r W∧Fr p w.heap.size w W ∧
  W.heap[w.heap.size]?=some (Af #[Aa Ab 0,Ac ⟨#[]⟩,Aa Ab 0,Aa Ab 0,Ae false,Ad none 0 0,Ad none 0 0] 28 (0,0))∧qq3 kq x r=R∧80*r.length+20≤kq
theorem qr17 (p:Nat) (A:Option Addr) (cap:Nat) (l r:List Wd) (n:Nat) (hn:80*r.length+51≤n) (w:World) (h:PB p A cap l r w)
  (hb:∀ m,m≤n→ ∀ r W,80*r.length+51≤m→PB p A cap l r W→Calls Am 173 #[qn p] W (Ans p A cap l W (isE W.heap.size) (qm4 m r))) :
  Calls Am 132 #[qn p] w (Ans p A cap l w (isE w.heap.size) (qe4 (n+1) r)):=by
 have HW:=Aside0.mk h;have hp:=h.lt;have HP:=Aside0.mk hp;have B1:=(Ao w.heap.size w).alloc (Ag _) (Af #[Aa Ab 0,Ac ⟨#[]⟩,Aa Ab 0,Aa Ab 0,Ae false,Ad none 0 0,Ad none 0 0] 28);have hP0:=h.below B1;have HS:=Aside0.mk (show(w.alloc (Af #[Aa Ab 0,Ac ⟨#[]⟩,Aa Ab 0,Aa Ab 0,Ae false,Ad none 0 0,Ad none 0 0] 28)).heap.size=w.heap.size+1 by simp);have HF:=Aside0.mk ((Fr.refl p w.heap.size w).alloc (Ag _) (Ah hp) (Af #[Aa Ab 0,Ac ⟨#[]⟩,Aa Ab 0,Aa Ab 0,Ae false,Ad none 0 0,Ad none 0 0] 28));have HN:=Aside0.mk (qm w (Af #[Aa Ab 0,Ac ⟨#[]⟩,Aa Ab 0,Aa Ab 0,Ae false,Ad none 0 0,Ad none 0 0] 28));have hc:=hb n (Ag _) r _ hn hP0;have Hb:=Aside0.mk hb;have hU:qe4 (n+1) r=(qm4 n r).bind fun x=>qq3 n x.1 x.2:=by simp only [qe4]
 rw [hU];clear hU;have HLen:=Aside0.mk (show ∀ x r1,qm4 n r=some (x,r1)→r1.length<r.length from fun x r1 hx=>by obtain⟨u,hu,_,hne,_⟩:=(qk3 n).path hx;rw [hu,Aq];have:=List.length_pos_iff.2 hne;omega);have HNn:=Aside0.mk hn;generalize hq:qm4 n r=q at hc ⊢;clear h hp B1 hb hP0 hn
 cases q with
 | none=>
  clear hq HLen;unfold qn at *;go_enter Tryz.func132,Tryz.ntmps132;go_wp2_with fail
  refine hc.mono ?_;rintro e w1 ⟨hf,hm⟩;have hm:e=qu1:=hm;subst hm;exact⟨rfl,Fr.chain HF.out hf zaz (Ah HP.out),rfl⟩
 | some xr=>
  obtain⟨x,r1⟩:=xr;have hl1:=HLen.out x r1 hq;clear hq HLen;have hc:=Ans.some hc;simp only [Ay];obtain⟨R,hR0⟩:∃ R,qq3 n x r1=R:=⟨_,rfl⟩;rw [hR0];have HR0:=Aside0.mk hR0;clear hR0;have HL1:=Aside0.mk hl1;clear hl1;unfold qn at *;go_enter Tryz.func132,Tryz.ntmps132;go_wp2_with fail
  refine hc.mono ?_;rintro e w1 ⟨F,op,s,d,t,b,A1,n1,c1,A2,n2,c2,rfl,hR,hFl,hP1,hf⟩;have HF1:=Aside0.mk (Fr.chain HF.out hf zaz (Ah HP.out));have HN1:=Aside0.mk (Fr.get hf HN.out zv);have B3:=(Ao w1.heap.size w1).alloc (Ag _) (Af #[Aa Ab op,Ac s,Aa Ab d,Aa Ab t,Ae b,Ad A1 n1 c1,Ad A2 n2 c2] 28);have HSb:=Aside0.mk (show w.heap.size<w1.heap.size from(An.1 HN1.out).1);have HU:Aside0 (UB p A cap l w w1.heap.size R n (w1.alloc (Af #[Aa Ab op,Ac s,Aa Ab d,Aa Ab t,Ae b,Ad A1 n1 c1,Ad A2 n2 c2] 28))):=⟨⟨F,op,s,d,t,b,A1,n1,c1,A2,n2,c2,x,r1,qm w1 _,hR.keeps (Keeps.of_below B3),fun k hk=>by have:=hFl k hk;rw [HS.out]at this;rw [qo];omega,hP1.below B3,HF1.out.alloc (Ag _) (Ah HP.out) _,qa HN1.out _,HR0.out,by have:=HL1.out;have:=HNn.out;omega⟩⟩;clear hR hFl hP1 hf B3 hc;have HEb:=Aside0.mk (show p<w1.heap.size∧w.heap.size≠w1.heap.size from⟨by have:=HSb.out;have:=HP.out;omega,by have:=HSb.out;omega⟩);go_wp2_with fail
  clear HF HN HF1 HN1 HR0 HL1 hc;generalize w1.heap.size=eb at *;go_loopg [] n (fun kq w'=>Aside0 (UB p A cap l w eb R kq w')∧Aside0 (kq≤n))
  case atStart=>exact⟨HU,⟨Ag _⟩⟩
  case round=>
   obtain⟨hu,HK⟩:=hrel;obtain⟨F,op,s,d,t,b,A1,n1,c1,A2,n2,c2,x,r,hbb,hR,hFl,hPr,hFr,hNr,hL,hlen⟩:=hu.out;clear HU hu;obtain⟨k1,rfl⟩:∃ k1,gk=k1+1:=⟨gk - 1,by omega⟩;simp only [qq3]at hL
   cases ht:takeW 5 [124] r with
   | none=>
    rw [ht]at hL;subst hL;have ht1:=qt1 p A cap l r 5 [124] _ hPr ht;have HR:=Aside0.mk hR;have HFl:=Aside0.mk (show ∀ k,F k→w.heap.size<k∧k<wr.heap.size from fun k hk=>⟨(hFl k hk).1,(hFl k hk).2.1⟩);have HP1:=Aside0.mk hPr;have HF1:=Aside0.mk hFr;have HN1:=Aside0.mk hNr;have HB:=Aside0.mk hbb;clear ht hlen hR hFl hPr hFr hNr hbb;unfold qn at *;go_wp2_with fail
    refine ht1.mono ?_;rintro e w2 ⟨rfl,m,rfl⟩;clear ht1;obtain⟨zc0,zc1,zc2,zc3,zc4,zc5,zc6,zf0,zf1,zf2,zf3,zf4,zf5,zf6⟩:=fd7 ((show(wr.drewN m).heap[w.heap.size]?=_ from HN1.out));obtain⟨yc0,yc1,yc2,yc3,yc4,yc5,yc6⟩:=fc7 ((show(wr.drewN m).heap[eb]?=_ from HB.out));go_wp2_with fail
    have hnF:¬ F w.heap.size:=fun hq=>by have:=(HFl.out _ hq).1;omega
    have hnp:p≠w.heap.size:=by have:=HP.out;omega
    have hF6:=(Fr.set (Fr.set (Fr.set (Fr.set (Fr.set (Fr.set (Fr.set (HF1.out.drewN m) (g:=w.heap.size) (.inr (Ag _)) (Ah HP.out) 0 (Aa Ab op)) (g:=w.heap.size) (.inr (Ag _)) (Ah HP.out) 1 (Ac s)) (g:=w.heap.size) (.inr (Ag _)) (Ah HP.out) 2 (Aa Ab d)) (g:=w.heap.size) (.inr (Ag _)) (Ah HP.out) 3 (Aa Ab t)) (g:=w.heap.size) (.inr (Ag _)) (Ah HP.out) 4 (Ae b)) (g:=w.heap.size) (.inr (Ag _)) (Ah HP.out) 5 (Ad A1 n1 c1)) (g:=w.heap.size) (.inr (Ag _)) (Ah HP.out) 6 (Ad A2 n2 c2));refine bodyPost_ret (results_cell_row rfl _ _ w.heap.size 28 #[Aa Ab op,Ac s,Aa Ab d,Aa Ab t,Ae b,Ad A1 n1 c1,Ad A2 n2 c2] (0,0) _ rfl (qh (cs':= #[Aa Ab op,Ac s,Aa Ab d,Aa Ab t,Ae b,Ad A1 n1 c1,Ad A2 n2 c2]) (qh (cs':= #[Aa Ab op,Ac s,Aa Ab d,Aa Ab t,Ae b,Ad A1 n1 c1,Ad none 0 0]) (qh (cs':= #[Aa Ab op,Ac s,Aa Ab d,Aa Ab t,Ae b,Ad none 0 0,Ad none 0 0]) (qh (cs':= #[Aa Ab op,Ac s,Aa Ab d,Aa Ab t,Ae false,Ad none 0 0,Ad none 0 0]) (qh (cs':= #[Aa Ab op,Ac s,Aa Ab d,Aa Ab 0,Ae false,Ad none 0 0,Ad none 0 0]) (qh (cs':= #[Aa Ab op,Ac s,Aa Ab 0,Aa Ab 0,Ae false,Ad none 0 0,Ad none 0 0]) (qh (cs':= #[Aa Ab op,Ac ⟨#[]⟩,Aa Ab 0,Aa Ab 0,Ae false,Ad none 0 0,Ad none 0 0]) (show(wr.drewN m).heap[w.heap.size]?=_ from HN1.out) 0 (Aa Ab op) rfl) 1 (Ac s) rfl) 2 (Aa Ab d) rfl) 3 (Aa Ab t) rfl) 4 (Ae b) rfl) 5 (Ad A1 n1 c1) rfl) 6 (Ad A2 n2 c2) rfl) AL rfl zr) rfl ?_;refine⟨hF6,_,rfl,⟨F,[Aa Ab op,Ac s,Aa Ab d,Aa Ab t,Ae b,Ad A1 n1 c1,Ad A2 n2 c2],rfl,?_,fun k hk=>⟨Ah (HFl.out k hk).1,zaq⟩⟩,?_⟩
    ·exact(RepE.keeps (Keeps.of_set _ 6 (Ad A2 n2 c2) (hnF)) (RepE.keeps (Keeps.of_set _ 5 (Ad A1 n1 c1) (hnF)) (RepE.keeps (Keeps.of_set _ 4 (Ae b) (hnF)) (RepE.keeps (Keeps.of_set _ 3 (Aa Ab t) (hnF)) (RepE.keeps (Keeps.of_set _ 2 (Aa Ab d) (hnF)) (RepE.keeps (Keeps.of_set _ 1 (Ac s) (hnF)) (RepE.keeps (Keeps.of_set _ 0 (Aa Ab op) (hnF)) (RepE.drewN m HR.out))))))))
    ·refine HW.out.move hF6 ?_ (HP1.out.drewN m).suf;rw [PB.sets7 hnp];exact(HP1.out.drewN m).blk
   | some r1=>
    rw [ht]at hL;simp only []at hL;have ht1:=qf2 p A cap l r r1 5 [124] _ hPr ht;have hlr:r.length=r1.length+1:=by obtain⟨x0,h0,_⟩:=qv ht;rw [h0];rfl
    have hneed:80*r1.length+51≤k1:=by omega
    have hk1:k1≤n:=by have:=HK.out;omega
    have HR:=Aside0.mk hR;have HFl:=Aside0.mk hFl;have HF1:=Aside0.mk hFr;have HN1:=Aside0.mk hNr;have HB:=Aside0.mk hbb;have HL0:=Aside0.mk hL;clear ht hlen hR hFl hPr hFr hNr hbb hL;unfold qn at *;go_wp2_with fail
    refine ht1.mono ?_;rintro e w2 ⟨rfl,hP2,hf⟩;clear ht1;have HB2:=Aside0.mk (Fr.get hf HB.out (by have:=HEb.out;omega));have HN2:=Aside0.mk (Fr.get hf HN1.out zv);have HLw:=Aside0.mk (show w.heap.size<wr.heap.size from(An.1 HN1.out).1);have HF2:=Aside0.mk (Fr.chain HF1.out hf (Ah HLw.out) (Ah HP.out));have HR2:=Aside0.mk (RepE.keeps (Keeps.of_fr hf (Ag _) (fun k hk=>Ah (HFl.out k hk).1) HP.out) HR.out);have HFl2:=Aside0.mk (show ∀ k,F k→w.heap.size<k∧k<w2.heap.size∧k≠eb from fun k hk=>by have:=HFl.out k hk;have:=hf.1.size;omega);have hc:=Hb.out k1 hk1 r1 w2.drew hneed hP2.drew;have HLen:=Aside0.mk (show ∀ x r3,qm4 k1 r1=some (x,r3)→r3.length<r1.length from fun x r3 hx=>by obtain⟨u,hu,_,hne,_⟩:=(qk3 k1).path hx;rw [hu,Aq];have:=List.length_pos_iff.2 hne;omega);have HP2:=Aside0.mk hP2;clear HR HFl HF1 HN1 HB hP2 hf;generalize hq:qm4 k1 r1=q at hc HL0
    cases q with
    | none=>
     have hRn:(none:Option (Ex × List Wd))=R:=HL0.out;subst hRn;clear HL0 hq HLen;obtain⟨yc0,yc1,yc2,yc3,yc4,yc5,yc6⟩:=fc7 (HB2.out);have HA:∀ o:Obj,(w2.alloc o).heap[eb]?=_:=fun o=>qa HB2.out o;have xc0:=fun o=>(Ai ((HA o)) 0).trans (show _=some (Aa Ab op)from rfl);have xf0:=fun o=>qc ((HA o)) 0;have xc1:=fun o=>(Ai ((HA o)) 1).trans (show _=some (Ac s)from rfl);have xf1:=fun o=>qc ((HA o)) 1;have xc2:=fun o=>(Ai ((HA o)) 2).trans (show _=some (Aa Ab d)from rfl);have xf2:=fun o=>qc ((HA o)) 2;have xc3:=fun o=>(Ai ((HA o)) 3).trans (show _=some (Aa Ab t)from rfl);have xf3:=fun o=>qc ((HA o)) 3;have xc4:=fun o=>(Ai ((HA o)) 4).trans (show _=some (Ae b)from rfl);have xf4:=fun o=>qc ((HA o)) 4;have xc5:=fun o=>(Ai ((HA o)) 5).trans (show _=some (Ad A1 n1 c1)from rfl);have xf5:=fun o=>qc ((HA o)) 5;have xc6:=fun o=>(Ai ((HA o)) 6).trans (show _=some (Ad A2 n2 c2)from rfl);have xf6:=fun o=>qc ((HA o)) 6;clear HA;have hc:=Ans.none hc (.agg #[Aa Ab op,Ac s,Aa Ab d,Aa Ab t,Ae b,Ad A1 n1 c1,Ad A2 n2 c2]);unfold qn at *;go_wp2_with fail
     go_region_with (first | (go_at_call 173;refine hc.mono ?_;rintro e w3 (⟨rfl,hf3⟩ | ⟨rfl,rfl,hF⟩);exact⟨rfl,Fr.chain HF2.out.drew hf3 (Ah (An.1 HN2.out).1) (Ah HP.out),rfl⟩))
     all_goals trace_state
     all_goals exact hF.out.elim
    | some x2r2=>
     obtain⟨x2,r2⟩:=x2r2;have hlen2:=HLen.out x2 r2 hq;have HLn:=Aside0.mk (show 80*r2.length+20≤k1 by omega);have hc:=Ans.some hc;clear hq HLen hlen2;obtain⟨yc0,yc1,yc2,yc3,yc4,yc5,yc6⟩:=fc7 (HB2.out);unfold qn at *;go_wp2_with fail
     have HX:∀ (w3:World),Fr p w2.drew.heap.size w2.drew w3→w3.heap[eb]?=some (Af #[Aa Ab op,Ac s,Aa Ab d,Aa Ab t,Ae b,Ad A1 n1 c1,Ad A2 n2 c2] 28 (0,0)):=fun w3 hf3=>Fr.get hf3 (show w2.drew.heap[eb]?=_ from HB2.out) (by have:=HEb.out;omega);have HX:=Aside0.mk HX;go_region_with (first | (go_at_call 173;refine hc.mono ?_;rintro e w3 ⟨F3,op',s',d',t',b',A1',n1',c1',A2',n2',c2',rfl,hR3,hFl3,hP3,hf3⟩;have hq3:=HX.out w3 hf3;have HA:∀ o:Obj,(w3.alloc o).heap[eb]?=_:=fun o=>qa hq3 o;have vc0:=(Ai (hq3) 0).trans (show _=some (Aa Ab op)from rfl);have vc1:=(Ai (hq3) 1).trans (show _=some (Ac s)from rfl);have vc2:=(Ai (hq3) 2).trans (show _=some (Aa Ab d)from rfl);have vc3:=(Ai (hq3) 3).trans (show _=some (Aa Ab t)from rfl);have vc4:=(Ai (hq3) 4).trans (show _=some (Ae b)from rfl);have vc5:=(Ai (hq3) 5).trans (show _=some (Ad A1 n1 c1)from rfl);have vc6:=(Ai (hq3) 6).trans (show _=some (Ad A2 n2 c2)from rfl);have xc0:=fun o=>(Ai ((HA o)) 0).trans (show _=some (Aa Ab op)from rfl);have xf0:=fun o=>qc ((HA o)) 0;have xc1:=fun o=>(Ai ((HA o)) 1).trans (show _=some (Ac s)from rfl);have xf1:=fun o=>qc ((HA o)) 1;have xc2:=fun o=>(Ai ((HA o)) 2).trans (show _=some (Aa Ab d)from rfl);have xf2:=fun o=>qc ((HA o)) 2;have xc3:=fun o=>(Ai ((HA o)) 3).trans (show _=some (Aa Ab t)from rfl);have xf3:=fun o=>qc ((HA o)) 3;have xc4:=fun o=>(Ai ((HA o)) 4).trans (show _=some (Ae b)from rfl);have xf4:=fun o=>qc ((HA o)) 4;have xc5:=fun o=>(Ai ((HA o)) 5).trans (show _=some (Ad A1 n1 c1)from rfl);have xf5:=fun o=>qc ((HA o)) 5;have xc6:=fun o=>(Ai ((HA o)) 6).trans (show _=some (Ad A2 n2 c2)from rfl);have xf6:=fun o=>qc ((HA o)) 6;have H3:=Aside0.mk (AZ hR3 (AZ hFl3 (AZ hP3 (AZ hf3 hq3))));clear hR3 hFl3 hP3 hf3 hq3 HA))
     all_goals go_wp2_with fail
     all_goals
      have hL2:=HL0.out;simp only [Ay]at hL2;have hk1':=HK.out;have hebL:=(An.1 HB2.out).1;have hNL:=(An.1 HN2.out).1;have HL2:=Aside0.mk hL2;have HE2:=Aside0.mk hebL;have HNL:=Aside0.mk hNL;clear hL2 hebL hNL;go_roundg k1
      case measure=>omega
      case rel=>
       obtain⟨hR3,hFl3,hP3,hf3,hq3⟩:=H3.out;have hRx:=RepE.keeps (Keeps.of_fr hf3 (Ag _) (fun k hk=>Ah (HFl2.out k hk).1) HP.out) (RepE.drew HR2.out);have hs3:w2.heap.size≤w3.heap.size:=hf3.1.size;have h2:=RepE.two 14 28 hRx hR3
       have hnG:¬ (F eb∨F3 eb∨eb=w3.heap.size):=by
        rintro(hk | hk | hk)
        ·exact(HFl2.out eb hk).2.2 rfl
        ·have h5:w2.heap.size≤eb:=(hFl3 eb hk).1;have:=HE2.out;omega
        ·have:=HE2.out;omega
       have hq4:=qa hq3 (Af #[Aa Ab op,Ac s,Aa Ab d,Aa Ab t,Ae b,Ad A1 n1 c1,Ad A2 n2 c2,Aa Ab op',Ac s',Aa Ab d',Aa Ab t',Ae b',Ad A1' n1' c1',Ad A2' n2' c2'] 28);have hN3:=qa (Fr.get hf3 (show w2.drew.heap[w.heap.size]?=_ from HN2.out) zv) (Af #[Aa Ab op,Ac s,Aa Ab d,Aa Ab t,Ae b,Ad A1 n1 c1,Ad A2 n2 c2,Aa Ab op',Ac s',Aa Ab d',Aa Ab t',Ae b',Ad A1' n1' c1',Ad A2' n2' c2'] 28);have hP4:=hP3.below ((Ao w3.heap.size w3).alloc (Ag _) (Af #[Aa Ab op,Ac s,Aa Ab d,Aa Ab t,Ae b,Ad A1 n1 c1,Ad A2 n2 c2,Aa Ab op',Ac s',Aa Ab d',Aa Ab t',Ae b',Ad A1' n1' c1',Ad A2' n2' c2'] 28));have hF3:=Fr.chain HF2.out.drew hf3 (Ah HNL.out) (Ah HP.out);have hF4:=(Fr.set (Fr.set (Fr.set (Fr.set (Fr.set (Fr.set (Fr.set (Fr.alloc hF3 (Ag _) (Ah HP.out) (Af #[Aa Ab op,Ac s,Aa Ab d,Aa Ab t,Ae b,Ad A1 n1 c1,Ad A2 n2 c2,Aa Ab op',Ac s',Aa Ab d',Aa Ab t',Ae b',Ad A1' n1' c1',Ad A2' n2' c2'] 28)) (g:=eb) (.inr zbb) (Ah HP.out) 0 (Aa Ab 14)) (g:=eb) (.inr zbb) (Ah HP.out) 1 (Ac ⟨#[]⟩)) (g:=eb) (.inr zbb) (Ah HP.out) 2 (Aa Ab 0)) (g:=eb) (.inr zbb) (Ah HP.out) 3 (Aa Ab 0)) (g:=eb) (.inr zbb) (Ah HP.out) 4 (Ae false)) (g:=eb) (.inr zbb) (Ah HP.out) 5 (Ad (some ⟨w3.heap.size,0,none⟩) 2 2)) (g:=eb) (.inr zbb) (Ah HP.out) 6 (Ad none 0 0));refine⟨⟨(fun k=>F k∨F3 k∨k=w3.heap.size),14,⟨#[]⟩,0,0,false,some ⟨w3.heap.size,0,none⟩,2,2,none,0,0,mkW 14 [x,x2],r2,?_,?_,?_,?_,hF4,?_,HL2.out,HLn.out⟩,⟨by omega⟩⟩
       ·exact(qh (cs':= #[Aa Ab 14,Ac ⟨#[]⟩,Aa Ab 0,Aa Ab 0,Ae false,Ad (some ⟨w3.heap.size,0,none⟩) 2 2,Ad none 0 0]) (qh (cs':= #[Aa Ab 14,Ac ⟨#[]⟩,Aa Ab 0,Aa Ab 0,Ae false,Ad (some ⟨w3.heap.size,0,none⟩) 2 2,Ad A2 n2 c2]) (qh (cs':= #[Aa Ab 14,Ac ⟨#[]⟩,Aa Ab 0,Aa Ab 0,Ae false,Ad A1 n1 c1,Ad A2 n2 c2]) (qh (cs':= #[Aa Ab 14,Ac ⟨#[]⟩,Aa Ab 0,Aa Ab 0,Ae b,Ad A1 n1 c1,Ad A2 n2 c2]) (qh (cs':= #[Aa Ab 14,Ac ⟨#[]⟩,Aa Ab 0,Aa Ab t,Ae b,Ad A1 n1 c1,Ad A2 n2 c2]) (qh (cs':= #[Aa Ab 14,Ac ⟨#[]⟩,Aa Ab d,Aa Ab t,Ae b,Ad A1 n1 c1,Ad A2 n2 c2]) (qh (cs':= #[Aa Ab 14,Ac s,Aa Ab d,Aa Ab t,Ae b,Ad A1 n1 c1,Ad A2 n2 c2]) hq4 0 (Aa Ab 14) rfl) 1 (Ac ⟨#[]⟩) rfl) 2 (Aa Ab 0) rfl) 3 (Aa Ab 0) rfl) 4 (Ae false) rfl) 5 (Ad (some ⟨w3.heap.size,0,none⟩) 2 2) rfl) 6 (Ad none 0 0) rfl)
       ·exact(RepE.keeps (Keeps.of_set _ 6 (Ad none 0 0) (hnG)) (RepE.keeps (Keeps.of_set _ 5 (Ad (some ⟨w3.heap.size,0,none⟩) 2 2) (hnG)) (RepE.keeps (Keeps.of_set _ 4 (Ae false) (hnG)) (RepE.keeps (Keeps.of_set _ 3 (Aa Ab 0) (hnG)) (RepE.keeps (Keeps.of_set _ 2 (Aa Ab 0) (hnG)) (RepE.keeps (Keeps.of_set _ 1 (Ac ⟨#[]⟩) (hnG)) (RepE.keeps (Keeps.of_set _ 0 (Aa Ab 14) (hnG)) h2)))))))
       ·intro k hk;simp only [qx,qo]
        rcases hk with hk | hk | rfl
        ·have:=HFl2.out k hk;omega
        ·have h5:w2.heap.size≤k∧_:=hFl3 k hk;have:=HE2.out;have:=HNL.out;omega
        ·have:=HE2.out;have:=HNL.out;omega
       ·refine HW.out.move hF4 ?_ hP3.suf;rw [PB.sets7 (by have:=HEb.out;omega)];exact hP4.blk
       ·rw [PB.sets7 (by have:=HEb.out;omega)];exact hN3
end Go.Proofs.YtocdckniokhbbaaGreatDoor.Syn
