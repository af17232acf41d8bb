import Derived.Test.YtocdckniokhbbaaGreatDoorZkZz
import Derived.Test.YtocdckniokhbbaaGreatDoorZkFc
import Derived.Test.YtocdckniokhbbaaGreatDoorZkSynT
set_option linter.unusedVariables false
set_option linter.unusedSimpArgs false
open Go.Proofs.Tryz renaming prog→Aj,underlying28→AJ
open Option renaming bind_some→AH
open Go.World renaming setCell→At
open Go.Value renaming int→Aa,string→Ac,slice→Ad,bool→Ae
open Go.IntKind renaming i64→Ab
open Go.Obj renaming cells→Af
open Array renaming getElem?_eq_some_iff→An
open Nat renaming le_refl→Ag,le_of_lt→Ah
open Go.RowKit.Below renaming refl→Ao
set_option maxHeartbeats 8000000
set_option maxRecDepth 100000
namespace Go.Proofs.YtocdckniokhbbaaGreatDoor.Syn
open Go.RowKit Go.Shelf YtocdckniokhbbaaGreatDoorW.PrintWords YtocdckniokhbbaaGreatDoorW.PrintLast YtocdckniokhbbaaGreatDoorW.PrintMore CharB SpanA FigD LexA LexF
theorem qz8 (p:Nat) (A:Option Addr) (cap:Nat) (l r:List Wd) (w:World) (h:PB p A cap l r w) :
  Calls Aj 218 #[qv p] w (Ans p A cap l w isT (qi3 r)):=by
 cases r with
 | nil=>exact qg22 p A cap l w h
 | cons x r=>
  obtain⟨x1,x2,x3,x4⟩:=x;simp only [qi3];by_cases h2:x1=2
  ·rw [if_pos (by simp [h2])];exact qe18 p A cap l r x1 x2 x3 x4 h2 w h
  rw [if_neg (by simp [h2])];by_cases h3:x1=3
  ·rw [if_pos (by simp [h3])];exact qd18 p A cap l r x1 x2 x3 x4 h3 w h
  rw [if_neg (by simp [h3])];by_cases h4:x1=4
  ·rw [if_pos (by simp [h4])]
   cases ht:takeW 1 [40] r with
   | none=>exact qk12 p A cap l r x1 x2 x3 x4 h4 ht w h
   | some r1=>
    simp only [AH];by_cases k1:x2=qi2
    ·rw [if_pos k1]
     cases hc:takeW 1 [41] r1 with
     | none=>exact qy8 p A cap l r x1 x2 x3 x4 h4 r1 ht k1 hc w h
     | some r2=>exact qf8 p A cap l r x1 x2 x3 x4 h4 r1 ht k1 r2 hc w h
    rw [if_neg k1];by_cases k2:x2=qj7
    ·rw [if_pos k2]
     cases hc:takeW 1 [41] r1 with
     | none=>exact ql12 p A cap l r x1 x2 x3 x4 h4 r1 ht k1 k2 hc w h
     | some r2=>exact ql11 p A cap l r x1 x2 x3 x4 h4 r1 ht k1 k2 r2 hc w h
    rw [if_neg k2];by_cases k3:x2=tPI
    ·rw [if_pos k3]
     cases r1 with
     | nil=>exact qk10 p A cap l r x1 x2 x3 x4 h4 [] ht k1 k2 k3 rfl rfl w h
     | cons y r2=>
      obtain⟨y1,y2,y3,y4⟩:=y;simp only [];by_cases y8:y1=8
      ·rw [if_pos (by simp [y8])];have ho:ofW 8 ((y1,y2,y3,y4) :: r2)=true:=by simp [ofW,y8]
       cases hc:takeW 1 [41] r2 with
       | none=>exact qa14 p A cap l r x1 x2 x3 x4 h4 _ ht k1 k2 k3 y1 y2 y3 y4 r2 rfl ho hc w h
       | some r3=>exact qn12 p A cap l r x1 x2 x3 x4 h4 _ ht k1 k2 k3 y1 y2 y3 y4 r2 rfl ho r3 hc w h
      ·rw [if_neg (by simp [y8])];have ho:ofW 8 ((y1,y2,y3,y4) :: r2)=false:=by simp [ofW,y8]
       cases hc:takeW 1 [41] ((y1,y2,y3,y4) :: r2)with
       | none=>exact qk10 p A cap l r x1 x2 x3 x4 h4 _ ht k1 k2 k3 ho hc w h
       | some r3=>exact qz13 p A cap l r x1 x2 x3 x4 h4 _ ht k1 k2 k3 ho r3 hc w h
    ·rw [if_neg k3]
     cases hc:takeW 1 [41] r1 with
     | none=>exact qm12 p A cap l r x1 x2 x3 x4 h4 r1 ht k1 k2 k3 hc w h
     | some r2=>exact qm11 p A cap l r x1 x2 x3 x4 h4 r1 ht k1 k2 k3 r2 hc w h
  ·rw [if_neg (by simp [h4])];exact qh22 p A cap l r x1 x2 x3 x4 h2 h3 h4 w h
end Go.Proofs.YtocdckniokhbbaaGreatDoor.Syn
namespace Go.Proofs.YtocdckniokhbbaaGreatDoor.Syn
open Go.RowKit Go.Shelf YtocdckniokhbbaaGreatDoorW.PrintWords YtocdckniokhbbaaGreatDoorW.PrintLast YtocdckniokhbbaaGreatDoorW.PrintMore CharB SpanA FigD LexA LexF
theorem PB.sets7 {p:Nat} {W:World} {b:Nat} (hb:p≠b) (v0 v1 v2 v3 v4 v5 v6:Value):(((((((W.setCell ⟨b,0,none⟩ v0).setCell ⟨b,1,none⟩ v1).setCell ⟨b,2,none⟩ v2).setCell ⟨b,3,none⟩ v3).setCell ⟨b,4,none⟩ v4).setCell ⟨b,5,none⟩ v5).setCell ⟨b,6,none⟩ v6).heap[p]?=W.heap[p]? :=by
 rw [qz _ _ _ _ p hb,qz _ _ _ _ p hb,qz _ _ _ _ p hb,qz _ _ _ _ p hb,qz _ _ _ _ p hb,qz _ _ _ _ p hb,qz _ _ _ _ p hb]
theorem PB.sets5 {p:Nat} {W:World} {b:Nat} (hb:p≠b) (v0 v1 v2 v3 v4:Value):(((((W.setCell ⟨b,0,none⟩ v0).setCell ⟨b,1,none⟩ v1).setCell ⟨b,2,none⟩ v2).setCell ⟨b,3,none⟩ v3).setCell ⟨b,4,none⟩ v4).heap[p]?=W.heap[p]? :=by
 rw [qz _ _ _ _ p hb,qz _ _ _ _ p hb,qz _ _ _ _ p hb,qz _ _ _ _ p hb,qz _ _ _ _ p hb]
theorem qf1 (W:World) (a:Addr) (v:Value):(W.setCell a v).heap.size=W.heap.size:=by simp [At]
theorem qo (W:World) (o:Obj):(W.alloc o).heap.size=W.heap.size+1:=by simp
theorem RepE.mk' {F:Nat→Prop} {w:World} (op:Int) (s:List UInt8) (d t:Int) (b:Bool) {l:List Ex} {ss:List St} {A A':Option Addr} {n c n' c':Nat} {xs ys:List Value} (hn:n=l.length) (hc:n≤c) (h1:RepR F w l xs) (h2:Row F w A xs) (hn':n'=ss.length) (hc':n'≤c') (k1:RepT F w ss ys) (k2:Row F w A' ys) :
  RepE F w (.mk op s d t b l ss) [Aa Ab op,Ac (ba s),Aa Ab d,Aa Ab t,Ae b,Ad A n c,Ad A' n' c']:=by
 simp only [RepE];subst hn hn';exact⟨_,_,rfl,⟨A,c,xs,rfl,hc,h1,h2⟩,⟨A',c',ys,rfl,hc',k1,k2⟩⟩
theorem Row.blk {F:Nat→Prop} {w:World} {g:Nat} {cs:Array Value} {t:TypeId} (hF:F g) (hb:w.heap[g]?=some (Af cs t (0,0))):Row F w (some ⟨g,0,none⟩) cs.toList:=by
 intro j u hu;refine⟨_,rfl,hF,(An.1 hb).1,?_⟩;rw [show(⟨g,0,none⟩:Addr).add j=⟨g,j,none⟩ by unfold Addr.add;split<;>simp_all,qb1 hb];simpa using hu
theorem RepR.nil (F:Nat→Prop) (w:World):RepR F w [] []:=by simp only [RepR]
theorem RepT.nil (F:Nat→Prop) (w:World):RepT F w [] []:=by simp only [RepT]
theorem qh14 (p:Nat) (A:Option Addr) (cap:Nat) (l r:List Wd) (n:Nat) (w:World) (h:PB p A cap l r w)
  (hb:∀ W,PB p A cap l r W→Calls Aj 52 #[qv p,Aa Ab 0] W (Ans p A cap l W (isE W.heap.size) (qk3 n 0 r))) :
  Calls Aj 27 #[qv p] w (Ans p A cap l w (isE w.heap.size) (qk3 n 0 r)):=by
 generalize qk3 n 0 r=q at hb ⊢;have HW:=Aside0.mk h;have hp:=h.lt;have HP:=Aside0.mk hp;have B1:=(Ao w.heap.size w).alloc (Ag _) (Af #[Aa Ab 0,Ac ⟨#[]⟩,Aa Ab 0,Aa Ab 0,Ae false,Ad none 0 0,Ad none 0 0] 28);have hP0:=h.below B1;have HS:=Aside0.mk (show(w.alloc (Af #[Aa Ab 0,Ac ⟨#[]⟩,Aa Ab 0,Aa Ab 0,Ae false,Ad none 0 0,Ad none 0 0] 28)).heap.size=w.heap.size+1 by simp);have HF:=Aside0.mk ((Fr.refl p w.heap.size w).alloc (Ag _) (Ah hp) (Af #[Aa Ab 0,Ac ⟨#[]⟩,Aa Ab 0,Aa Ab 0,Ae false,Ad none 0 0,Ad none 0 0] 28));have HN:=Aside0.mk (qr w (Af #[Aa Ab 0,Ac ⟨#[]⟩,Aa Ab 0,Aa Ab 0,Ae false,Ad none 0 0,Ad none 0 0] 28));have hc:=hb _ hP0;clear h hp B1 hb hP0;unfold qv at *;go_enter Tryz.func27,Tryz.ntmps27;go_wp2_with fail
 refine hc.mono ?_;rintro e w1 ⟨hf,hm⟩;have hsz1:=hf.1.size;have HF1:=Aside0.mk (Fr.chain HF.out hf zau (Ah HP.out));have HN1:=Aside0.mk (Fr.get hf HN.out zr);have HL1:=Aside0.mk (show w.heap.size<w1.heap.size from(An.1 HN1.out).1)
 rcases q with _ | ⟨x,r1⟩
 ·have hm:e=qa2:=hm;subst hm;exact⟨rfl,HF1.out,rfl⟩
 ·obtain⟨v,rfl,hE,hP1⟩:=hm;obtain⟨F,op,s,d,t,b,A1,n1,c1,A2,n2,c2,rfl,hR,hFl⟩:=hE.open;have HR:=Aside0.mk hR;have HFl:=Aside0.mk (show ∀ k,F k→w.heap.size<k∧k<w1.heap.size from fun k hk=>za9);have HP1:=Aside0.mk hP1;obtain⟨zc0,zc1,zc2,zc3,zc4,zc5,zc6,zf0,zf1,zf2,zf3,zf4,zf5,zf6⟩:=fd7 (HN1.out);clear hc hf hE hR hFl hP1 hsz1;go_wp2_with fail
  have hnF:¬ F (w.heap.size):=fun hq=>by have:=(HFl.out _ hq).1;omega
  have hnp:p≠w.heap.size:=by have:=HP.out;omega
  have hF6:=(Fr.set (Fr.set (Fr.set (Fr.set (Fr.set (Fr.set (Fr.set HF1.out (g:=w.heap.size) (.inr (Ag _)) (Ah HP.out) 0 (Aa Ab op)) (g:=w.heap.size) (.inr (Ag _)) (Ah HP.out) 1 (Ac s)) (g:=w.heap.size) (.inr (Ag _)) (Ah HP.out) 2 (Aa Ab d)) (g:=w.heap.size) (.inr (Ag _)) (Ah HP.out) 3 (Aa Ab t)) (g:=w.heap.size) (.inr (Ag _)) (Ah HP.out) 4 (Ae b)) (g:=w.heap.size) (.inr (Ag _)) (Ah HP.out) 5 (Ad A1 n1 c1)) (g:=w.heap.size) (.inr (Ag _)) (Ah HP.out) 6 (Ad A2 n2 c2));refine bodyPost_ret (results_cell_row rfl _ _ (w.heap.size) 28 #[Aa Ab op,Ac s,Aa Ab d,Aa Ab t,Ae b,Ad A1 n1 c1,Ad A2 n2 c2] (0,0) _ rfl (qk (cs':= #[Aa Ab op,Ac s,Aa Ab d,Aa Ab t,Ae b,Ad A1 n1 c1,Ad A2 n2 c2]) (qk (cs':= #[Aa Ab op,Ac s,Aa Ab d,Aa Ab t,Ae b,Ad A1 n1 c1,Ad none 0 0]) (qk (cs':= #[Aa Ab op,Ac s,Aa Ab d,Aa Ab t,Ae b,Ad none 0 0,Ad none 0 0]) (qk (cs':= #[Aa Ab op,Ac s,Aa Ab d,Aa Ab t,Ae false,Ad none 0 0,Ad none 0 0]) (qk (cs':= #[Aa Ab op,Ac s,Aa Ab d,Aa Ab 0,Ae false,Ad none 0 0,Ad none 0 0]) (qk (cs':= #[Aa Ab op,Ac s,Aa Ab 0,Aa Ab 0,Ae false,Ad none 0 0,Ad none 0 0]) (qk (cs':= #[Aa Ab op,Ac ⟨#[]⟩,Aa Ab 0,Aa Ab 0,Ae false,Ad none 0 0,Ad none 0 0]) HN1.out 0 (Aa Ab op) rfl) 1 (Ac s) rfl) 2 (Aa Ab d) rfl) 3 (Aa Ab t) rfl) 4 (Ae b) rfl) 5 (Ad A1 n1 c1) rfl) 6 (Ad A2 n2 c2) rfl) AJ rfl zm) rfl ?_;refine⟨hF6,_,rfl,⟨F,[Aa Ab op,Ac s,Aa Ab d,Aa Ab t,Ae b,Ad A1 n1 c1,Ad A2 n2 c2],rfl,?_,fun k hk=>⟨zat,zao⟩⟩,?_⟩
  ·exact(RepE.keeps (Keeps.of_set _ 6 (Ad A2 n2 c2) (hnF)) (RepE.keeps (Keeps.of_set _ 5 (Ad A1 n1 c1) (hnF)) (RepE.keeps (Keeps.of_set _ 4 (Ae b) (hnF)) (RepE.keeps (Keeps.of_set _ 3 (Aa Ab t) (hnF)) (RepE.keeps (Keeps.of_set _ 2 (Aa Ab d) (hnF)) (RepE.keeps (Keeps.of_set _ 1 (Ac s) (hnF)) (RepE.keeps (Keeps.of_set _ 0 (Aa Ab op) (hnF)) HR.out)))))))
  ·refine HW.out.move hF6 ?_ HP1.out.suf;rw [PB.sets7 hnp];exact HP1.out.blk
theorem qt12 (p:Nat) (A:Option Addr) (cap:Nat) (l r r1:List Wd) (ht:takeW 5 [45] r=some r1) (q:Option (Ex × List Wd)) (w:World) (h:PB p A cap l r w)
  (hb:∀ W,PB p A cap l r1 W→Calls Aj 95 #[qv p] W (Ans p A cap l W (isE W.heap.size) q)) :
  Calls Aj 95 #[qv p] w (Ans p A cap l w (isE w.heap.size) (q.bind fun x=>some (mkW 15 [x.1],x.2))):=by
 have HW:=Aside0.mk h;have hp:=h.lt;have HP:=Aside0.mk hp;have B1:=(Ao w.heap.size w).alloc (Ag _) (Af #[Aa Ab 0,Ac ⟨#[]⟩,Aa Ab 0,Aa Ab 0,Ae false,Ad none 0 0,Ad none 0 0] 28);have hP0:=h.below B1;have HS:=Aside0.mk (show(w.alloc (Af #[Aa Ab 0,Ac ⟨#[]⟩,Aa Ab 0,Aa Ab 0,Ae false,Ad none 0 0,Ad none 0 0] 28)).heap.size=w.heap.size+1 by simp);have HF:=Aside0.mk ((Fr.refl p w.heap.size w).alloc (Ag _) (Ah hp) (Af #[Aa Ab 0,Ac ⟨#[]⟩,Aa Ab 0,Aa Ab 0,Ae false,Ad none 0 0,Ad none 0 0] 28));have HN:=Aside0.mk (qr w (Af #[Aa Ab 0,Ac ⟨#[]⟩,Aa Ab 0,Aa Ab 0,Ae false,Ad none 0 0,Ad none 0 0] 28));have ht1:=qh2 p A cap l r r1 5 [45] _ hP0 ht;have Hb:=Aside0.mk hb;clear h hp B1 hb hP0 ht;unfold qv at *;go_enter Tryz.func95,Tryz.ntmps95;go_wp2_with fail
 refine ht1.mono ?_;rintro e w1 ⟨rfl,hP1,hf⟩;have hsz1:=hf.1.size;have HF1:=Aside0.mk (Fr.chain HF.out hf zau (Ah HP.out));have HN1:=Aside0.mk (Fr.get hf HN.out zr);have HL1:=Aside0.mk (show w.heap.size<w1.heap.size from(An.1 HN1.out).1);have hc:=Hb.out w1 hP1;clear ht1 hf hP1 hsz1;go_wp2_with fail
 refine hc.mono ?_;rintro e w2 ⟨hf,hm⟩;have hsz2:=hf.1.size;have HF2:=Aside0.mk (Fr.chain HF1.out hf (by first | (rw [HS.out];omega) | (have:=HL1.out;omega)) (Ah HP.out));have HN2:=Aside0.mk (Fr.get hf HN1.out zr);have HL2:=Aside0.mk (show w.heap.size<w2.heap.size from(An.1 HN2.out).1)
 rcases q with _ | ⟨x,r2⟩
 ·have hm:e=qa2:=hm;subst hm;exact⟨rfl,HF2.out,rfl⟩
 ·obtain⟨v,rfl,hE,hP2⟩:=hm;obtain⟨F,op,s,d,t,b,A1,n1,c1,A2,n2,c2,rfl,hR,hFl⟩:=hE.open;have B3:=(Ao w2.heap.size w2).alloc (Ag _) (Af #[Aa Ab op,Ac s,Aa Ab d,Aa Ab t,Ae b,Ad A1 n1 c1,Ad A2 n2 c2] 28);have hR3:RepE (fun k=>F k∨k=w2.heap.size) (w2.alloc (Af #[Aa Ab op,Ac s,Aa Ab d,Aa Ab t,Ae b,Ad A1 n1 c1,Ad A2 n2 c2] 28)) (mkW 15 [x]) [Aa Ab 15,Ac ⟨#[]⟩,Aa Ab 0,Aa Ab 0,Ae false,Ad (some ⟨w2.heap.size,0,none⟩) 1 1,Ad none 0 0]:=RepE.mk' 15 [] 0 0 false rfl (Ag _) (RepR.one ((hR.keeps (Keeps.of_below B3)).mono fun k hk=> .inl hk)) (Row.blk (.inr rfl) (qr w2 _)) rfl (Ag _) (RepT.nil _ _) (Row.nil _ _ _);have HR3:=Aside0.mk hR3;have HFl:=Aside0.mk (show ∀ k,(F k∨k=w2.heap.size)→w.heap.size<k∧k<(w2.alloc (Af #[Aa Ab op,Ac s,Aa Ab d,Aa Ab t,Ae b,Ad A1 n1 c1,Ad A2 n2 c2] 28)).heap.size from fun k hk=>by have:=HL1.out;have:=HL2.out;rw [qo];rcases hk with hk | rfl;have:=hFl k hk;omega;omega);have HP3:=Aside0.mk (hP2.below B3);have HF3:=Aside0.mk (HF2.out.alloc (by have:=HL2.out;first | omega | exact Ag _) (Ah HP.out) (Af #[Aa Ab op,Ac s,Aa Ab d,Aa Ab t,Ae b,Ad A1 n1 c1,Ad A2 n2 c2] 28));have HN3:=Aside0.mk (qb HN2.out (Af #[Aa Ab op,Ac s,Aa Ab d,Aa Ab t,Ae b,Ad A1 n1 c1,Ad A2 n2 c2] 28));obtain⟨zc0,zc1,zc2,zc3,zc4,zc5,zc6,zf0,zf1,zf2,zf3,zf4,zf5,zf6⟩:=fd7 (HN3.out);clear hc hf hE hR hFl hP2 B3 hR3 hsz2;go_wp2_with fail
  have hnF:¬ (fun k=>F k∨k=w2.heap.size) (w.heap.size):=fun hq=>by have:=(HFl.out _ hq).1;omega
  have hnp:p≠w.heap.size:=by have:=HP.out;omega
  have hF6:=(Fr.set (Fr.set (Fr.set (Fr.set (Fr.set (Fr.set (Fr.set HF3.out (g:=w.heap.size) (.inr (Ag _)) (Ah HP.out) 0 (Aa Ab 15)) (g:=w.heap.size) (.inr (Ag _)) (Ah HP.out) 1 (Ac ⟨#[]⟩)) (g:=w.heap.size) (.inr (Ag _)) (Ah HP.out) 2 (Aa Ab 0)) (g:=w.heap.size) (.inr (Ag _)) (Ah HP.out) 3 (Aa Ab 0)) (g:=w.heap.size) (.inr (Ag _)) (Ah HP.out) 4 (Ae false)) (g:=w.heap.size) (.inr (Ag _)) (Ah HP.out) 5 (Ad (some ⟨w2.heap.size,0,none⟩) 1 1)) (g:=w.heap.size) (.inr (Ag _)) (Ah HP.out) 6 (Ad none 0 0));refine bodyPost_ret (results_cell_row rfl _ _ (w.heap.size) 28 #[Aa Ab 15,Ac ⟨#[]⟩,Aa Ab 0,Aa Ab 0,Ae false,Ad (some ⟨w2.heap.size,0,none⟩) 1 1,Ad none 0 0] (0,0) _ rfl (qk (cs':= #[Aa Ab 15,Ac ⟨#[]⟩,Aa Ab 0,Aa Ab 0,Ae false,Ad (some ⟨w2.heap.size,0,none⟩) 1 1,Ad none 0 0]) (qk (cs':= #[Aa Ab 15,Ac ⟨#[]⟩,Aa Ab 0,Aa Ab 0,Ae false,Ad (some ⟨w2.heap.size,0,none⟩) 1 1,Ad none 0 0]) (qk (cs':= #[Aa Ab 15,Ac ⟨#[]⟩,Aa Ab 0,Aa Ab 0,Ae false,Ad none 0 0,Ad none 0 0]) (qk (cs':= #[Aa Ab 15,Ac ⟨#[]⟩,Aa Ab 0,Aa Ab 0,Ae false,Ad none 0 0,Ad none 0 0]) (qk (cs':= #[Aa Ab 15,Ac ⟨#[]⟩,Aa Ab 0,Aa Ab 0,Ae false,Ad none 0 0,Ad none 0 0]) (qk (cs':= #[Aa Ab 15,Ac ⟨#[]⟩,Aa Ab 0,Aa Ab 0,Ae false,Ad none 0 0,Ad none 0 0]) (qk (cs':= #[Aa Ab 15,Ac ⟨#[]⟩,Aa Ab 0,Aa Ab 0,Ae false,Ad none 0 0,Ad none 0 0]) HN3.out 0 (Aa Ab 15) rfl) 1 (Ac ⟨#[]⟩) rfl) 2 (Aa Ab 0) rfl) 3 (Aa Ab 0) rfl) 4 (Ae false) rfl) 5 (Ad (some ⟨w2.heap.size,0,none⟩) 1 1) rfl) 6 (Ad none 0 0) rfl) AJ rfl zm) rfl ?_;refine⟨hF6,_,rfl,⟨(fun k=>F k∨k=w2.heap.size),[Aa Ab 15,Ac ⟨#[]⟩,Aa Ab 0,Aa Ab 0,Ae false,Ad (some ⟨w2.heap.size,0,none⟩) 1 1,Ad none 0 0],rfl,?_,fun k hk=>⟨zat,zao⟩⟩,?_⟩
  ·exact(RepE.keeps (Keeps.of_set _ 6 (Ad none 0 0) (hnF)) (RepE.keeps (Keeps.of_set _ 5 (Ad (some ⟨w2.heap.size,0,none⟩) 1 1) (hnF)) (RepE.keeps (Keeps.of_set _ 4 (Ae false) (hnF)) (RepE.keeps (Keeps.of_set _ 3 (Aa Ab 0) (hnF)) (RepE.keeps (Keeps.of_set _ 2 (Aa Ab 0) (hnF)) (RepE.keeps (Keeps.of_set _ 1 (Ac ⟨#[]⟩) (hnF)) (RepE.keeps (Keeps.of_set _ 0 (Aa Ab 15) (hnF)) HR3.out)))))))
  ·refine HW.out.move hF6 ?_ HP3.out.suf;rw [PB.sets7 hnp];exact HP3.out.blk
theorem qs12 (p:Nat) (A:Option Addr) (cap:Nat) (l r:List Wd) (ht:takeW 5 [45] r=none) (q:Option (Ex × List Wd)) (w:World) (h:PB p A cap l r w)
  (hb:∀ W,PB p A cap l r W→Calls Aj 132 #[qv p] W (Ans p A cap l W (isE W.heap.size) q)) :
  Calls Aj 95 #[qv p] w (Ans p A cap l w (isE w.heap.size) q):=by
 have HW:=Aside0.mk h;have hp:=h.lt;have HP:=Aside0.mk hp;have B1:=(Ao w.heap.size w).alloc (Ag _) (Af #[Aa Ab 0,Ac ⟨#[]⟩,Aa Ab 0,Aa Ab 0,Ae false,Ad none 0 0,Ad none 0 0] 28);have hP0:=h.below B1;have HS:=Aside0.mk (show(w.alloc (Af #[Aa Ab 0,Ac ⟨#[]⟩,Aa Ab 0,Aa Ab 0,Ae false,Ad none 0 0,Ad none 0 0] 28)).heap.size=w.heap.size+1 by simp);have HF:=Aside0.mk ((Fr.refl p w.heap.size w).alloc (Ag _) (Ah hp) (Af #[Aa Ab 0,Ac ⟨#[]⟩,Aa Ab 0,Aa Ab 0,Ae false,Ad none 0 0,Ad none 0 0] 28));have HN:=Aside0.mk (qr w (Af #[Aa Ab 0,Ac ⟨#[]⟩,Aa Ab 0,Aa Ab 0,Ae false,Ad none 0 0,Ad none 0 0] 28));have ht1:=qz1 p A cap l r 5 [45] _ hP0 ht;have Hb:=Aside0.mk hb;have HP0:=Aside0.mk hP0;clear h hp B1 hb hP0 ht;unfold qv at *;go_enter Tryz.func95,Tryz.ntmps95;go_wp2_with fail
 refine ht1.mono ?_;rintro e w0 ⟨rfl,n,rfl⟩;have hc:=Hb.out _ (HP0.out.drewN n);clear ht1;go_wp2_with fail
 refine hc.mono ?_;rintro e w1 ⟨hf,hm⟩;have HF1:=Aside0.mk (Fr.chain (HF.out.drewN n) hf (by show _≤(w.alloc _).heap.size;rw [HS.out];omega) (Ah HP.out));have HN1:=Aside0.mk (Fr.get hf (show((w.alloc (Af #[Aa Ab 0,Ac ⟨#[]⟩,Aa Ab 0,Aa Ab 0,Ae false,Ad none 0 0,Ad none 0 0] 28)).drewN n).heap[w.heap.size]?=_ from HN.out) zr)
 rcases q with _ | ⟨x,r1⟩
 ·have hm:e=qa2:=hm;subst hm;exact⟨rfl,HF1.out,rfl⟩
 ·obtain⟨v,rfl,hE,hP1⟩:=hm;obtain⟨F,op,s,d,t,b,A1,n1,c1,A2,n2,c2,rfl,hR,hFl⟩:=hE.open;have HR:=Aside0.mk hR;have HFl:=Aside0.mk (show ∀ k,F k→w.heap.size<k∧k<w1.heap.size from fun k hk=>by have h5:(w.alloc (Af #[Aa Ab 0,Ac ⟨#[]⟩,Aa Ab 0,Aa Ab 0,Ae false,Ad none 0 0,Ad none 0 0] 28)).heap.size≤k:=(hFl k hk).1;have:=(hFl k hk).2;rw [HS.out]at h5;omega);have HP1:=Aside0.mk hP1;obtain⟨zc0,zc1,zc2,zc3,zc4,zc5,zc6,zf0,zf1,zf2,zf3,zf4,zf5,zf6⟩:=fd7 (HN1.out);clear hc hf hE hR hFl hP1;go_wp2_with fail
  have hnF:¬ F (w.heap.size):=fun hq=>by have:=(HFl.out _ hq).1;omega
  have hnp:p≠w.heap.size:=by have:=HP.out;omega
  have hF6:=(Fr.set (Fr.set (Fr.set (Fr.set (Fr.set (Fr.set (Fr.set HF1.out (g:=w.heap.size) (.inr (Ag _)) (Ah HP.out) 0 (Aa Ab op)) (g:=w.heap.size) (.inr (Ag _)) (Ah HP.out) 1 (Ac s)) (g:=w.heap.size) (.inr (Ag _)) (Ah HP.out) 2 (Aa Ab d)) (g:=w.heap.size) (.inr (Ag _)) (Ah HP.out) 3 (Aa Ab t)) (g:=w.heap.size) (.inr (Ag _)) (Ah HP.out) 4 (Ae b)) (g:=w.heap.size) (.inr (Ag _)) (Ah HP.out) 5 (Ad A1 n1 c1)) (g:=w.heap.size) (.inr (Ag _)) (Ah HP.out) 6 (Ad A2 n2 c2));refine bodyPost_ret (results_cell_row rfl _ _ (w.heap.size) 28 #[Aa Ab op,Ac s,Aa Ab d,Aa Ab t,Ae b,Ad A1 n1 c1,Ad A2 n2 c2] (0,0) _ rfl (qk (cs':= #[Aa Ab op,Ac s,Aa Ab d,Aa Ab t,Ae b,Ad A1 n1 c1,Ad A2 n2 c2]) (qk (cs':= #[Aa Ab op,Ac s,Aa Ab d,Aa Ab t,Ae b,Ad A1 n1 c1,Ad none 0 0]) (qk (cs':= #[Aa Ab op,Ac s,Aa Ab d,Aa Ab t,Ae b,Ad none 0 0,Ad none 0 0]) (qk (cs':= #[Aa Ab op,Ac s,Aa Ab d,Aa Ab t,Ae false,Ad none 0 0,Ad none 0 0]) (qk (cs':= #[Aa Ab op,Ac s,Aa Ab d,Aa Ab 0,Ae false,Ad none 0 0,Ad none 0 0]) (qk (cs':= #[Aa Ab op,Ac s,Aa Ab 0,Aa Ab 0,Ae false,Ad none 0 0,Ad none 0 0]) (qk (cs':= #[Aa Ab op,Ac ⟨#[]⟩,Aa Ab 0,Aa Ab 0,Ae false,Ad none 0 0,Ad none 0 0]) HN1.out 0 (Aa Ab op) rfl) 1 (Ac s) rfl) 2 (Aa Ab d) rfl) 3 (Aa Ab t) rfl) 4 (Ae b) rfl) 5 (Ad A1 n1 c1) rfl) 6 (Ad A2 n2 c2) rfl) AJ rfl zm) rfl ?_;refine⟨hF6,_,rfl,⟨F,[Aa Ab op,Ac s,Aa Ab d,Aa Ab t,Ae b,Ad A1 n1 c1,Ad A2 n2 c2],rfl,?_,fun k hk=>⟨zat,zao⟩⟩,?_⟩
  ·exact(RepE.keeps (Keeps.of_set _ 6 (Ad A2 n2 c2) (hnF)) (RepE.keeps (Keeps.of_set _ 5 (Ad A1 n1 c1) (hnF)) (RepE.keeps (Keeps.of_set _ 4 (Ae b) (hnF)) (RepE.keeps (Keeps.of_set _ 3 (Aa Ab t) (hnF)) (RepE.keeps (Keeps.of_set _ 2 (Aa Ab d) (hnF)) (RepE.keeps (Keeps.of_set _ 1 (Ac s) (hnF)) (RepE.keeps (Keeps.of_set _ 0 (Aa Ab op) (hnF)) HR.out)))))))
  ·refine HW.out.move hF6 ?_ HP1.out.suf;rw [PB.sets7 hnp];exact HP1.out.blk
end Go.Proofs.YtocdckniokhbbaaGreatDoor.Syn
