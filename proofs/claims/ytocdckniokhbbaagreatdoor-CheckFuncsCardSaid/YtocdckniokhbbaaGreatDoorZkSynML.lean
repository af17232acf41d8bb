import Derived.Test.YtocdckniokhbbaaGreatDoorZkZz
import Derived.Test.YtocdckniokhbbaaGreatDoorZkFc
import Derived.Test.YtocdckniokhbbaaGreatDoorZkSynM
set_option linter.unusedVariables false
set_option linter.unusedSimpArgs false
open Go.Proofs.Tryz renaming prog→Aj,underlying28→AJ
open Go.Value renaming int→Aa,string→Ac,slice→Ad,bool→Ae
open Go.IntKind renaming i64→Ab
open Go.Obj renaming cells→Af
open Nat renaming le_refl→Ag,le_of_lt→Ah,zero_le→Ba
open Go.RowKit.Below renaming refl→Ao
open Go.Lib renaming cell_of_heap→Ai
open List renaming length_append→Ar,getElem?_eq_getElem→AG
open Go.Instr renaming makeFunc→Be
open Option renaming bind_some→AH,some→Ay
open Array renaming getElem?_eq_some_iff→An
open And renaming intro→AZ
set_option maxHeartbeats 8000000
set_option maxRecDepth 100000
namespace Go.Proofs.YtocdckniokhbbaaGreatDoor.Syn
open Go.RowKit Go.Shelf YtocdckniokhbbaaGreatDoorW.PrintWords YtocdckniokhbbaaGreatDoorW.PrintLast YtocdckniokhbbaaGreatDoorW.PrintMore CharB SpanA FigD LexA LexF
theorem qf17 (p:Nat) (A:Option Addr) (cap:Nat) (l r:List Wd) (n:Nat) (k:Nat) (hk:k=5) (hn:80*r.length+59 - k≤n) (w:World) (h:PB p A cap l r w)
  (hb:∀ m,m≤n→ ∀ r W,80*r.length+59 - k≤m→PB p A cap l r W→Calls Aj 95 #[qv p] W (Ans p A cap l W (isE W.heap.size) (qk3 m (k+1) r))) :
  Calls Aj 52 #[qv p,Aa Ab (k:Int)] w (Ans p A cap l w (isE w.heap.size) (qk3 (n+1) k r)):=by
 have HW:=Aside0.mk h;have hp:=h.lt;have HP:=Aside0.mk hp;have B1:=(Ao w.heap.size w).alloc (Ag _) (Af #[qv p] 60);have hs1:(w.alloc (Af #[qv p] 60)).heap.size=w.heap.size+1:=qo _ _;have B2:=B1.alloc (by rw [hs1];omega) (Af #[Aa Ab (k:Int)] 3);have hs2:((w.alloc (Af #[qv p] 60)).alloc (Af #[Aa Ab (k:Int)] 3)).heap.size=w.heap.size+1+1:=by rw [qo,hs1]
 have B3:=B2.alloc za7 (Af #[Aa Ab 0,Ac ⟨#[]⟩,Aa Ab 0,Aa Ab 0,Ae false,Ad none 0 0,Ad none 0 0] 28);have hP0:=h.below B3;have hq1:=qr (w.alloc (Af #[qv p] 60)) (Af #[Aa Ab (k:Int)] 3);rw [hs1]at hq1;have hq2:=qr ((w.alloc (Af #[qv p] 60)).alloc (Af #[Aa Ab (k:Int)] 3)) (Af #[Aa Ab 0,Ac ⟨#[]⟩,Aa Ab 0,Aa Ab 0,Ae false,Ad none 0 0,Ad none 0 0] 28);rw [hs2]at hq2;have hq0:=qb (qb (qr w (Af #[qv p] 60)) (Af #[Aa Ab (k:Int)] 3)) (Af #[Aa Ab 0,Ac ⟨#[]⟩,Aa Ab 0,Aa Ab 0,Ae false,Ad none 0 0,Ad none 0 0] 28);have hq1:=qb hq1 (Af #[Aa Ab 0,Ac ⟨#[]⟩,Aa Ab 0,Aa Ab 0,Ae false,Ad none 0 0,Ad none 0 0] 28);have hF0:=(((Fr.refl p w.heap.size w).alloc (Ag _) (Ah hp) (Af #[qv p] 60)).alloc (Ag _) (Ah hp) (Af #[Aa Ab (k:Int)] 3)).alloc (Ag _) (Ah hp) (Af #[Aa Ab 0,Ac ⟨#[]⟩,Aa Ab 0,Aa Ab 0,Ae false,Ad none 0 0,Ad none 0 0] 28);obtain⟨W0,hW0⟩:∃ W,((w.alloc (Af #[qv p] 60)).alloc (Af #[Aa Ab (k:Int)] 3)).alloc (Af #[Aa Ab 0,Ac ⟨#[]⟩,Aa Ab 0,Aa Ab 0,Ae false,Ad none 0 0,Ad none 0 0] 28)=W:=⟨_,rfl⟩;have hs3:W0.heap.size=w.heap.size+3:=by rw [← hW0,qo,hs2]
 rw [hW0]at hP0 hq0 hq1 hq2 hF0;have Hb:=Aside0.mk (show ∀ m,m≤n→ ∀ r W,80*r.length+59 - k≤m→PB p A cap l r W→W.heap[w.heap.size]?=some (Af #[qv p] 60 (0,0))→W.heap[w.heap.size+1]?=some (Af #[Aa Ab (k:Int)] 3 (0,0))→Calls Aj 95 #[qv p] W (Ans p A cap l W (isE W.heap.size) (qk3 m (k+1) r))from fun m h1 r W h2 h3 h4 h5=>hb m h1 r W h2 h3);have hc:=Hb.out n (Ag _) r W0 hn hP0 hq0 hq1;have hU:qk3 (n+1) k r=(qk3 n (k+1) r).bind fun x=>qx6 n k x.1 x.2:=by simp only [qk3];rw [if_neg (by omega)]
 rw [hU];clear hU;have HLen:=Aside0.mk (show ∀ x r1,qk3 n (k+1) r=some (x,r1)→r1.length<r.length from fun x r1 hx=>by obtain⟨u,hu,hg,_⟩:=(qj3 n).bin (by omega) hx;rw [hu,Ar];have:=List.length_pos_iff.2 hg.ne;omega);have HNn:=Aside0.mk hn;have HS3:=Aside0.mk hs3;have a0:=(Ai hq0 0).trans (show _=some (qv p)from rfl);have a1:=(Ai hq1 0).trans (show _=some (Aa Ab (k:Int))from rfl);have HF0:=Aside0.mk hF0;have HQ0:=Aside0.mk hq0;have HQ1:=Aside0.mk hq1;have HQ2:=Aside0.mk hq2;have hmf:∀ (fn:Fn) (first cap:Array Value) (w:World),(Be fn first cap).run Aj w= .ok (.func fn first cap) w:=fun _ _ _ _=>rfl;have hk6:decide ((k:Int)+1<6)=false:=by simp;omega
 have hk0:(0:Int)≤k:=by omega
 have hk5:(k:Int)<6:=by omega
 generalize hq:qk3 n (k+1) r=q at hc ⊢;clear h hp B1 B2 B3 hs1 hs2 hs3 hb hP0 hn hq0 hq1 hq2 hF0 hk;subst hW0
 cases q with
 | none=>
  clear hq HLen;unfold qv at *;go_enter Tryz.func52,Tryz.ntmps52;go_wp2_with fail
  refine hc.mono ?_;rintro e w1 ⟨hf,hm⟩;have hm:e=qa2:=hm;subst hm;exact⟨rfl,Fr.chain HF0.out hf (by rw [HS3.out];omega) (Ah HP.out),rfl⟩
 | some xr=>
  obtain⟨x,r1⟩:=xr;have hl1:=HLen.out x r1 hq;have hc:=Ans.some hc;simp only [AH];obtain⟨R,hR0⟩:∃ R,qx6 n k x r1=R:=⟨_,rfl⟩;rw [hR0];have HR0:=Aside0.mk hR0;have HLn:=Aside0.mk (show 80*r1.length+20≤n by have:=HNn.out;omega);clear hq HLen hl1 hR0;unfold qv at *;go_enter Tryz.func52,Tryz.ntmps52;go_wp2_with fail
  refine hc.mono ?_;rintro e w1 ⟨F,op,s,d,t,b,A1,n1,c1,A2,n2,c2,rfl,hR,hFl,hP1,hf⟩;have hF1:=Fr.chain HF0.out hf (by rw [HS3.out];omega) (Ah HP.out);have hres:=Fr.get hf HQ2.out zr;have hpb:=Fr.get hf HQ0.out zr;have hnb:=Fr.get hf HQ1.out zr;have hsz:=hf.1.size;rw [HS3.out]at hsz;have B4:=(Ao w1.heap.size w1).alloc (Ag _) (Af #[Aa Ab op,Ac s,Aa Ab d,Aa Ab t,Ae b,Ad A1 n1 c1,Ad A2 n2 c2] 28);have hCore:Core p A cap l w w1.heap.size k F [Aa Ab op,Ac s,Aa Ab d,Aa Ab t,Ae b,Ad A1 n1 c1,Ad A2 n2 c2] x r1 (w1.alloc (Af #[Aa Ab op,Ac s,Aa Ab d,Aa Ab t,Ae b,Ad A1 n1 c1,Ad A2 n2 c2] 28)):=⟨qr w1 _,hR.keeps (Keeps.of_below B4),fun k hk=>by have:=hFl k hk;rw [HS3.out]at this;rw [qo];omega,hP1.below B4,hF1.alloc (Ag _) (Ah HP.out) _,qb hres _,qb hpb _,qb hnb _⟩;have HU:Aside0 (BB p A cap l w w1.heap.size R k true n (w1.alloc (Af #[Aa Ab op,Ac s,Aa Ab d,Aa Ab t,Ae b,Ad A1 n1 c1,Ad A2 n2 c2] 28))):=⟨⟨F,op,s,d,t,b,A1,n1,c1,A2,n2,c2,x,r1,hCore,.inl ⟨rfl,HR0.out,HLn.out⟩⟩⟩;have HEb:=Aside0.mk (show w.heap.size+2<w1.heap.size by omega);clear hR hFl hP1 hf hF1 hres hpb hnb hsz B4 hCore hc HR0 HLn HF0 HQ0 HQ1 HQ2 a0 a1;go_wp2_with fail
  clear HS3;generalize w1.heap.size=eb at *;go_loopg [7] n (fun kq v7 w'=>∃ more:Bool,v7= Ae more∧Aside0 (BB p A cap l w eb R k more kq w')∧Aside0 (kq≤n))
  case atStart=>exact⟨true,rfl,HU,⟨Ag _⟩⟩
  case round=>
   obtain⟨more,rfl,hu,HK⟩:=hrel;obtain⟨F,op,s,d,t,b,A1,n1,c1,A2,n2,c2,x,r,hC,hcond⟩:=hu.out;clear HU hu
   rcases hcond with ⟨rfl,hL,hlen⟩ | ⟨rfl,hR⟩
   ·obtain⟨k1,rfl⟩:∃ k1,gk=k1+1:=⟨gk - 1,by omega⟩;simp only [qx6]at hL;obtain⟨o,ho⟩:∃ o,opS (qd2 k) r=o:=⟨_,rfl⟩;rw [qk19,ho]at hL;obtain⟨m,hm⟩:∃ m,(qd2 k).length=m:=⟨_,rfl⟩;have hrk:Calls Aj 97 #[Aa Ab (k:Int)] wr fun e w'=>∃ g cap,e= .returned (Ad (some ⟨g,0,none⟩) m cap)∧w'.heap[g]?=some (Af (qs4 (qd2 k)).toArray 132 (0,0))∧wr.heap.size≤g∧Below wr.heap.size wr w':=(qz12 k (by omega) wr).mono fun e w' ⟨g,cap,he,h⟩=>⟨g,cap,by rw [he,hm],h⟩;have hm4:m≤4:=by rw [← hm];match k with | 0=>decide | 1=>decide | 2=>decide | 3=>decide | 4=>decide | 5=>decide | k+6=>exact Ba _
    have HC:=Aside0.mk hC;have HL:=Aside0.mk hL;have HO:=Aside0.mk ho;have HM:=Aside0.mk hm;have HLn:=Aside0.mk (show 80*r.length+20≤k1+1 from hlen);have nc:=(Ai HC.out.nbox 0).trans (show _=some (Aa Ab (k:Int))from rfl);clear hC hL ho hm hlen;go_wp2_with fail
    refine hrk.mono ?_;rintro e w2 ⟨g,rcap,rfl,hrow,hgl,hbl⟩;have HC2:=Aside0.mk (HC.out.below HP.out hbl);have Hrow:=Aside0.mk hrow;have HO2:Aside0 (opS ((qd2 k).drop 0) r=o):=⟨HO.out⟩;clear hrk hrow hgl hbl nc HC HO;go_wp2_with fail
    go_loopg [7,22] m (fun kq v7 v22 w'=>∃ i:Nat,v7= Ae false∧v22= Aa Ab (i:Int)∧Aside0 (Core p A cap l w eb k F [Aa Ab op,Ac s,Aa Ab d,Aa Ab t,Ae b,Ad A1 n1 c1,Ad A2 n2 c2] x r w')∧Aside0 (w'.heap[g]?=some (Af (qs4 (qd2 k)).toArray 132 (0,0)))∧Aside0 (opS ((qd2 k).drop i) r=o)∧Aside0 (i≤m∧i+kq=m))
    case atStart=>exact⟨0,rfl,rfl,HC2,Hrow,HO2,⟨Ba _,Nat.zero_add _⟩⟩
    case round=>
     obtain⟨i,rfl,rfl,HCi,Hri,HOi,HI⟩:=hrel;clear HC2 Hrow HO2;by_cases hi:i=m
     ·have hR:R=some (x,r):=by
       have h1:=HOi.out;have h2:=HL.out;rw [hi,← HM.out,List.drop_length,qj19]at h1;subst h1;exact h2.symm
      subst hR;have hd:decide (i<m)=false:=by simp;omega
      have hk1:=HK.out;clear hi;go_wp2_with fail
      go_roundg k1
      case measure=>omega
      case rel=>exact⟨false,rfl,⟨⟨F,op,s,d,t,b,A1,n1,c1,A2,n2,c2,x,r,HCi.out,.inr ⟨rfl,rfl⟩⟩⟩,⟨by omega⟩⟩
     ·have him:i<m:=by have:=HI.out.1;omega
      obtain⟨q,hq⟩:∃ q,(qd2 k)[i]?=some q:=⟨_,AG (by rw [HM.out];exact him)⟩;obtain⟨qs,ov⟩:=q;have hat:=qq7 _ i _ hq;have hlt:i<(qd2 k).length:=by rw [HM.out];exact him
      have hdr:(qd2 k).drop i=(qs,ov) :: (qd2 k).drop (i+1):=by rw [List.drop_eq_getElem_cons hlt,Ay.inj ((AG hlt).symm.trans hq)]
      clear hlt;have r0:wr.cell? ⟨g,i*2,none⟩=some (Ac (ba qs)):=by rw [qb1 Hri.out];simpa using hat.1
      have r1:wr.cell? ⟨g,i*2+1,none⟩=some (Aa Ab ov):=by rw [qb1 Hri.out];simpa using hat.2
      have hd:decide (i<m)=true:=by simpa using him
      have i0:(0:Int)≤(i:Int):=by omega
      have i1:(i:Int)<(m:Int):=by omega
      have HOq:=HOi.out;rw [hdr]at HOq;have BO:=(Ao wr.heap.size wr).alloc (Ag _) (Af #[Ac (ba qs),Aa Ab ov] 132);have hC3:=HCi.out.below HP.out BO;have hrow3:=(BO.block g (An.1 Hri.out).1).trans Hri.out;have hob:=qr wr (Af #[Ac (ba qs),Aa Ab ov] 132);have q0:=(Ai hob 0).trans (show _=some (Ac (ba qs))from rfl);have pc:=(Ai hC3.pbox 0).trans (show _=some (qv p)from rfl)
      cases ht:takeW 5 qs r with
      | none=>
       have hO3:opS ((qd2 k).drop (i+1)) r=o:=by rw [← HOq];exact(opS_no ht).symm
       have htk:=qz1 p A cap l r 5 qs _ hC3.par ht;have hi1:=HI.out;have HC3:=Aside0.mk hC3;have Hrow3:=Aside0.mk hrow3;have HO3:=Aside0.mk hO3;obtain⟨k2,hk2⟩:∃ k2,gk=k2+1:=⟨gk - 1,by omega⟩;have HI2:=Aside0.mk hi1;clear hC3 hrow3 hob hO3 BO HOq hdr hat hq ht hi hi1;subst hk2;unfold qv at *;go_wp2_with fail
       refine htk.mono ?_;rintro e w4 ⟨rfl,m4,rfl⟩;clear htk r0 r1 q0 pc;go_wp2_with fail
       go_roundg k2
       case measure=>omega
       case rel=>exact⟨i+1,rfl,rfl,⟨HC3.out.drewN m4⟩,⟨Hrow3.out⟩,HO3,⟨by have:=HI2.out;omega⟩⟩
      | some r1=>
       have hO3:o=some (ov,r1):=by rw [← HOq];exact qi19 ht
       have htk:=qh2 p A cap l r r1 5 qs _ hC3.par ht;have hL3:=HL.out;rw [hO3]at hL3;simp only []at hL3;have hlr:r.length=r1.length+1:=by obtain⟨x0,h0,_⟩:=qg1 ht;rw [h0];rfl
       have hneed:80*r1.length+59 - k≤k1:=by have:=HLn.out;omega
       have hk1:k1≤n:=by have:=HK.out;omega
       have HC3:=Aside0.mk hC3;have HL3:=Aside0.mk hL3;have HOB:=Aside0.mk hob;have HSz:=Aside0.mk (show w.heap.size+2<wr.heap.size∧eb<wr.heap.size from⟨(An.1 HCi.out.res).1,(An.1 HCi.out.box).1⟩);clear hC3 hrow3 hob BO HOq hdr hat hq ht hi hL3 hO3 hlr HOi HI HL HM;unfold qv at *;go_wp2_with fail
       refine htk.mono ?_;rintro e w4 ⟨rfl,hP4,hf4⟩;clear htk r0 q0 pc;have hob4:=Fr.get hf4 HOB.out (by have:=HP.out;have:=HSz.out;omega);have HC4:=Aside0.mk (HC3.out.call HP.out HEb.out hP4 hf4);have hc:=Hb.out k1 hk1 r1 w4.drew hneed hP4.drew HC4.out.pbox HC4.out.nbox;have HLen:=Aside0.mk (show ∀ x r3,qk3 k1 (k+1) r1=some (x,r3)→r3.length<r1.length from fun x r3 hx=>zaz);have oc1:=(Ai hob4 1).trans (show _=some (Aa Ab ov)from rfl);have oa1:=fun o=>(Ai (qb hob4 o) 1).trans (show _=some (Aa Ab ov)from rfl);have HOb4:=Aside0.mk hob4;have HNeed:=Aside0.mk hneed;clear hf4 hP4 hob4 hneed HC3 HOB;generalize hq:qk3 k1 (k+1) r1=qq at hc HL3
       cases qq with
       | none=>
        have hRn:(none:Option (Ex × List Wd))=R:=HL3.out;subst hRn;clear HL3 hq HLen;obtain⟨yc0,yc1,yc2,yc3,yc4,yc5,yc6⟩:=fc7 (HC4.out.box);have HA:∀ o:Obj,(w4.alloc o).heap[eb]?=_:=fun o=>qb HC4.out.box o;have xc0:=fun o=>(Ai ((HA o)) 0).trans (show _=some (Aa Ab op)from rfl);have xf0:=fun o=>qe ((HA o)) 0;have xc1:=fun o=>(Ai ((HA o)) 1).trans (show _=some (Ac s)from rfl);have xf1:=fun o=>qe ((HA o)) 1;have xc2:=fun o=>(Ai ((HA o)) 2).trans (show _=some (Aa Ab d)from rfl);have xf2:=fun o=>qe ((HA o)) 2;have xc3:=fun o=>(Ai ((HA o)) 3).trans (show _=some (Aa Ab t)from rfl);have xf3:=fun o=>qe ((HA o)) 3;have xc4:=fun o=>(Ai ((HA o)) 4).trans (show _=some (Ae b)from rfl);have xf4:=fun o=>qe ((HA o)) 4;have xc5:=fun o=>(Ai ((HA o)) 5).trans (show _=some (Ad A1 n1 c1)from rfl);have xf5:=fun o=>qe ((HA o)) 5;have xc6:=fun o=>(Ai ((HA o)) 6).trans (show _=some (Ad A2 n2 c2)from rfl);have xf6:=fun o=>qe ((HA o)) 6;clear HA;have hc:=Ans.none hc (.agg #[Aa Ab op,Ac s,Aa Ab d,Aa Ab t,Ae b,Ad A1 n1 c1,Ad A2 n2 c2]);unfold qv at *;go_wp2_with fail
        go_region_with (first | (go_at_call 95;refine hc.mono ?_;rintro e w5 (⟨rfl,hf5⟩ | ⟨rfl,rfl,hF⟩);exact⟨rfl,Fr.chain HC4.out.fr.drew hf5 (by show w.heap.size≤w4.heap.size;have:=(An.1 HC4.out.pbox).1;omega) (Ah HP.out),rfl⟩))
        all_goals exact hF.out.elim
       | some x2r2=>
        obtain⟨x2,r2⟩:=x2r2;have hlen2:=HLen.out x2 r2 hq;have HLn2:=Aside0.mk (show 80*r2.length+20≤k1 by have:=HNeed.out;omega);have hc:=Ans.some hc;clear hq HLen hlen2;obtain⟨yc0,yc1,yc2,yc3,yc4,yc5,yc6⟩:=fc7 (HC4.out.box);unfold qv at *;go_wp2_with fail
        have HX:=Aside0.mk (show ∀ (w5:World),PB p A cap l r2 w5→Fr p w4.drew.heap.size w4.drew w5→Core p A cap l w eb k F [Aa Ab op,Ac s,Aa Ab d,Aa Ab t,Ae b,Ad A1 n1 c1,Ad A2 n2 c2] x r2 w5 from fun w5 h5 hf=>HC4.out.drew.call HP.out HEb.out h5 hf);have HY:=Aside0.mk (show ∀ (w5:World),Fr p w4.drew.heap.size w4.drew w5→w5.heap[wr.heap.size]?=some (Af #[Ac (ba qs),Aa Ab ov] 132 (0,0))from fun w5 hf=>Fr.get hf (show w4.drew.heap[wr.heap.size]?=_ from HOb4.out) (by have:=HP.out;have:=HSz.out;omega));go_region_with (first | (go_at_call 95;refine hc.mono ?_;rintro e w5 ⟨F3,op',s',d',t',b',A1',n1',c1',A2',n2',c2',rfl,hR3,hFl3,hP3,hf3⟩;have hC5:=HX.out w5 hP3 hf3;have hq3:=hC5.box;have hy3:=HY.out w5 hf3;have HA:∀ o:Obj,(w5.alloc o).heap[eb]?=_:=fun o=>qb hq3 o;have p1:=(Ai hy3 1).trans (show _=some (Aa Ab ov)from rfl);have p2:=fun o=>(Ai (qb hy3 o) 1).trans (show _=some (Aa Ab ov)from rfl);have vc0:=(Ai (hq3) 0).trans (show _=some (Aa Ab op)from rfl);have vc1:=(Ai (hq3) 1).trans (show _=some (Ac s)from rfl);have vc2:=(Ai (hq3) 2).trans (show _=some (Aa Ab d)from rfl);have vc3:=(Ai (hq3) 3).trans (show _=some (Aa Ab t)from rfl);have vc4:=(Ai (hq3) 4).trans (show _=some (Ae b)from rfl);have vc5:=(Ai (hq3) 5).trans (show _=some (Ad A1 n1 c1)from rfl);have vc6:=(Ai (hq3) 6).trans (show _=some (Ad A2 n2 c2)from rfl);have xc0:=fun o=>(Ai ((HA o)) 0).trans (show _=some (Aa Ab op)from rfl);have xf0:=fun o=>qe ((HA o)) 0;have xc1:=fun o=>(Ai ((HA o)) 1).trans (show _=some (Ac s)from rfl);have xf1:=fun o=>qe ((HA o)) 1;have xc2:=fun o=>(Ai ((HA o)) 2).trans (show _=some (Aa Ab d)from rfl);have xf2:=fun o=>qe ((HA o)) 2;have xc3:=fun o=>(Ai ((HA o)) 3).trans (show _=some (Aa Ab t)from rfl);have xf3:=fun o=>qe ((HA o)) 3;have xc4:=fun o=>(Ai ((HA o)) 4).trans (show _=some (Ae b)from rfl);have xf4:=fun o=>qe ((HA o)) 4;have xc5:=fun o=>(Ai ((HA o)) 5).trans (show _=some (Ad A1 n1 c1)from rfl);have xf5:=fun o=>qe ((HA o)) 5;have xc6:=fun o=>(Ai ((HA o)) 6).trans (show _=some (Ad A2 n2 c2)from rfl);have xf6:=fun o=>qe ((HA o)) 6;have H3:=Aside0.mk (AZ hC5 (AZ hR3 hFl3));clear hR3 hFl3 hP3 hf3 hq3 hy3 HA hC5))
        all_goals go_wp2_with fail
        all_goals
         clear vc0 vc1 vc2 vc3 vc4 vc5 vc6 xc0 xc1 xc2 xc3 xc4 xc5 xc6 xf0 xf1 xf2 xf3 xf4 xf5 xf6 yc0 yc1 yc2 yc3 yc4 yc5 yc6 p1 p2 oc1 oa1;have hL2:=HL3.out;simp only [AH]at hL2;have hk1':=HK.out;have HL2:=Aside0.mk hL2;clear hL2;go_roundg k1
         case measure=>omega
         case rel=>
          have hebL:eb<w4.heap.size:=(An.1 HC4.out.box).1;exact⟨true,rfl,⟨⟨_,_,_,_,_,_,_,_,_,_,_,_,_,_,qn13 ov HW.out HP.out HEb.out H3.out.1 H3.out.2.1 (fun k hk=>by have h5:w4.heap.size≤k∧_:=H3.out.2.2 k hk;omega),.inl ⟨rfl,HL2.out,HLn2.out⟩⟩⟩,⟨by omega⟩⟩
   ·subst hR;have HC:=Aside0.mk hC;clear hC;obtain⟨zc0,zc1,zc2,zc3,zc4,zc5,zc6,zf0,zf1,zf2,zf3,zf4,zf5,zf6⟩:=fd7 (HC.out.res);obtain⟨yc0,yc1,yc2,yc3,yc4,yc5,yc6⟩:=fc7 (HC.out.box);go_wp2_with fail
    have hnF:¬ F (w.heap.size+1+1):=fun hq=>by have:=((show ∀ k,F k→w.heap.size+2<k∧k<wr.heap.size from fun k hk=>⟨(HC.out.bnd k hk).1,(HC.out.bnd k hk).2.1⟩) _ hq).1;omega
    have hnp:p≠w.heap.size+1+1:=by have:=HP.out;omega
    have hF6:=(Fr.set (Fr.set (Fr.set (Fr.set (Fr.set (Fr.set (Fr.set HC.out.fr (g:=w.heap.size+1+1) (.inr (by omega)) (Ah HP.out) 0 (Aa Ab op)) (g:=w.heap.size+1+1) (.inr (by omega)) (Ah HP.out) 1 (Ac s)) (g:=w.heap.size+1+1) (.inr (by omega)) (Ah HP.out) 2 (Aa Ab d)) (g:=w.heap.size+1+1) (.inr (by omega)) (Ah HP.out) 3 (Aa Ab t)) (g:=w.heap.size+1+1) (.inr (by omega)) (Ah HP.out) 4 (Ae b)) (g:=w.heap.size+1+1) (.inr (by omega)) (Ah HP.out) 5 (Ad A1 n1 c1)) (g:=w.heap.size+1+1) (.inr (by omega)) (Ah HP.out) 6 (Ad A2 n2 c2));refine bodyPost_ret (results_cell_row rfl _ _ (w.heap.size+1+1) 28 #[Aa Ab op,Ac s,Aa Ab d,Aa Ab t,Ae b,Ad A1 n1 c1,Ad A2 n2 c2] (0,0) _ rfl (qk (cs':= #[Aa Ab op,Ac s,Aa Ab d,Aa Ab t,Ae b,Ad A1 n1 c1,Ad A2 n2 c2]) (qk (cs':= #[Aa Ab op,Ac s,Aa Ab d,Aa Ab t,Ae b,Ad A1 n1 c1,Ad none 0 0]) (qk (cs':= #[Aa Ab op,Ac s,Aa Ab d,Aa Ab t,Ae b,Ad none 0 0,Ad none 0 0]) (qk (cs':= #[Aa Ab op,Ac s,Aa Ab d,Aa Ab t,Ae false,Ad none 0 0,Ad none 0 0]) (qk (cs':= #[Aa Ab op,Ac s,Aa Ab d,Aa Ab 0,Ae false,Ad none 0 0,Ad none 0 0]) (qk (cs':= #[Aa Ab op,Ac s,Aa Ab 0,Aa Ab 0,Ae false,Ad none 0 0,Ad none 0 0]) (qk (cs':= #[Aa Ab op,Ac ⟨#[]⟩,Aa Ab 0,Aa Ab 0,Ae false,Ad none 0 0,Ad none 0 0]) HC.out.res 0 (Aa Ab op) rfl) 1 (Ac s) rfl) 2 (Aa Ab d) rfl) 3 (Aa Ab t) rfl) 4 (Ae b) rfl) 5 (Ad A1 n1 c1) rfl) 6 (Ad A2 n2 c2) rfl) AJ rfl zm) rfl ?_;refine⟨hF6,_,rfl,⟨F,[Aa Ab op,Ac s,Aa Ab d,Aa Ab t,Ae b,Ad A1 n1 c1,Ad A2 n2 c2],rfl,?_,fun k hk=>⟨zbh,zbe⟩⟩,?_⟩
    ·exact(RepE.keeps (Keeps.of_set _ 6 (Ad A2 n2 c2) (hnF)) (RepE.keeps (Keeps.of_set _ 5 (Ad A1 n1 c1) (hnF)) (RepE.keeps (Keeps.of_set _ 4 (Ae b) (hnF)) (RepE.keeps (Keeps.of_set _ 3 (Aa Ab t) (hnF)) (RepE.keeps (Keeps.of_set _ 2 (Aa Ab d) (hnF)) (RepE.keeps (Keeps.of_set _ 1 (Ac s) (hnF)) (RepE.keeps (Keeps.of_set _ 0 (Aa Ab op) (hnF)) HC.out.rep)))))))
    ·refine HW.out.move hF6 ?_ HC.out.par.suf;rw [PB.sets7 hnp];exact HC.out.par.blk
end Go.Proofs.YtocdckniokhbbaaGreatDoor.Syn
namespace Go.Proofs.YtocdckniokhbbaaGreatDoor.Syn
open Go.RowKit Go.Shelf YtocdckniokhbbaaGreatDoorW.PrintWords YtocdckniokhbbaaGreatDoorW.PrintLast YtocdckniokhbbaaGreatDoorW.PrintMore CharB SpanA FigD LexA LexF
theorem qg17 (p:Nat) (A:Option Addr) (cap:Nat) (l r:List Wd) (n:Nat) (k:Nat) (hk:k<5) (hn:80*r.length+59 - k≤n) (w:World) (h:PB p A cap l r w)
  (hb:∀ m,m≤n→ ∀ r W,80*r.length+59 - k≤m→PB p A cap l r W→Calls Aj 52 #[qv p,Aa Ab ((k:Int)+1)] W (Ans p A cap l W (isE W.heap.size) (qk3 m (k+1) r))) :
  Calls Aj 52 #[qv p,Aa Ab (k:Int)] w (Ans p A cap l w (isE w.heap.size) (qk3 (n+1) k r)):=by
 have HW:=Aside0.mk h;have hp:=h.lt;have HP:=Aside0.mk hp;have B1:=(Ao w.heap.size w).alloc (Ag _) (Af #[qv p] 60);have hs1:(w.alloc (Af #[qv p] 60)).heap.size=w.heap.size+1:=qo _ _;have B2:=B1.alloc (by rw [hs1];omega) (Af #[Aa Ab (k:Int)] 3);have hs2:((w.alloc (Af #[qv p] 60)).alloc (Af #[Aa Ab (k:Int)] 3)).heap.size=w.heap.size+1+1:=by rw [qo,hs1]
 have B3:=B2.alloc za7 (Af #[Aa Ab 0,Ac ⟨#[]⟩,Aa Ab 0,Aa Ab 0,Ae false,Ad none 0 0,Ad none 0 0] 28);have hP0:=h.below B3;have hq1:=qr (w.alloc (Af #[qv p] 60)) (Af #[Aa Ab (k:Int)] 3);rw [hs1]at hq1;have hq2:=qr ((w.alloc (Af #[qv p] 60)).alloc (Af #[Aa Ab (k:Int)] 3)) (Af #[Aa Ab 0,Ac ⟨#[]⟩,Aa Ab 0,Aa Ab 0,Ae false,Ad none 0 0,Ad none 0 0] 28);rw [hs2]at hq2;have hq0:=qb (qb (qr w (Af #[qv p] 60)) (Af #[Aa Ab (k:Int)] 3)) (Af #[Aa Ab 0,Ac ⟨#[]⟩,Aa Ab 0,Aa Ab 0,Ae false,Ad none 0 0,Ad none 0 0] 28);have hq1:=qb hq1 (Af #[Aa Ab 0,Ac ⟨#[]⟩,Aa Ab 0,Aa Ab 0,Ae false,Ad none 0 0,Ad none 0 0] 28);have hF0:=(((Fr.refl p w.heap.size w).alloc (Ag _) (Ah hp) (Af #[qv p] 60)).alloc (Ag _) (Ah hp) (Af #[Aa Ab (k:Int)] 3)).alloc (Ag _) (Ah hp) (Af #[Aa Ab 0,Ac ⟨#[]⟩,Aa Ab 0,Aa Ab 0,Ae false,Ad none 0 0,Ad none 0 0] 28);obtain⟨W0,hW0⟩:∃ W,((w.alloc (Af #[qv p] 60)).alloc (Af #[Aa Ab (k:Int)] 3)).alloc (Af #[Aa Ab 0,Ac ⟨#[]⟩,Aa Ab 0,Aa Ab 0,Ae false,Ad none 0 0,Ad none 0 0] 28)=W:=⟨_,rfl⟩;have hs3:W0.heap.size=w.heap.size+3:=by rw [← hW0,qo,hs2]
 rw [hW0]at hP0 hq0 hq1 hq2 hF0;have Hb:=Aside0.mk (show ∀ m,m≤n→ ∀ r W,80*r.length+59 - k≤m→PB p A cap l r W→W.heap[w.heap.size]?=some (Af #[qv p] 60 (0,0))→W.heap[w.heap.size+1]?=some (Af #[Aa Ab (k:Int)] 3 (0,0))→Calls Aj 96 #[.pointer (some ⟨w.heap.size,0,none⟩),.pointer (some ⟨w.heap.size+1,0,none⟩)] W (Ans p A cap l W (isE W.heap.size) (qk3 m (k+1) r))from fun m h1 r W h2 h3 h4 h5=>qp24 p A cap l r k (by omega) _ W h3 _ _ h4 h5 fun W2 h6=>hb m h1 r W2 h2 h6);have hc:=Hb.out n (Ag _) r W0 hn hP0 hq0 hq1;have hU:qk3 (n+1) k r=(qk3 n (k+1) r).bind fun x=>qx6 n k x.1 x.2:=by simp only [qk3];rw [if_neg (by omega)]
 rw [hU];clear hU;have HLen:=Aside0.mk (show ∀ x r1,qk3 n (k+1) r=some (x,r1)→r1.length<r.length from fun x r1 hx=>by obtain⟨u,hu,hg,_⟩:=(qj3 n).bin (by omega) hx;rw [hu,Ar];have:=List.length_pos_iff.2 hg.ne;omega);have HNn:=Aside0.mk hn;have HS3:=Aside0.mk hs3;have a0:=(Ai hq0 0).trans (show _=some (qv p)from rfl);have a1:=(Ai hq1 0).trans (show _=some (Aa Ab (k:Int))from rfl);have HF0:=Aside0.mk hF0;have HQ0:=Aside0.mk hq0;have HQ1:=Aside0.mk hq1;have HQ2:=Aside0.mk hq2;have hmf:∀ (fn:Fn) (first cap:Array Value) (w:World),(Be fn first cap).run Aj w= .ok (.func fn first cap) w:=fun _ _ _ _=>rfl;have hk6:decide ((k:Int)+1<6)=true:=by simp;omega
 have hk0:(0:Int)≤k:=by omega
 have hk5:(k:Int)<5:=by omega
 generalize hq:qk3 n (k+1) r=q at hc ⊢;clear h hp B1 B2 B3 hs1 hs2 hs3 hb hP0 hn hq0 hq1 hq2 hF0 hk;subst hW0
 cases q with
 | none=>
  clear hq HLen;unfold qv at *;go_enter Tryz.func52,Tryz.ntmps52;go_wp2_with fail
  refine hc.mono ?_;rintro e w1 ⟨hf,hm⟩;have hm:e=qa2:=hm;subst hm;exact⟨rfl,Fr.chain HF0.out hf (by rw [HS3.out];omega) (Ah HP.out),rfl⟩
 | some xr=>
  obtain⟨x,r1⟩:=xr;have hl1:=HLen.out x r1 hq;have hc:=Ans.some hc;simp only [AH];obtain⟨R,hR0⟩:∃ R,qx6 n k x r1=R:=⟨_,rfl⟩;rw [hR0];have HR0:=Aside0.mk hR0;have HLn:=Aside0.mk (show 80*r1.length+20≤n by have:=HNn.out;omega);clear hq HLen hl1 hR0;unfold qv at *;go_enter Tryz.func52,Tryz.ntmps52;go_wp2_with fail
  refine hc.mono ?_;rintro e w1 ⟨F,op,s,d,t,b,A1,n1,c1,A2,n2,c2,rfl,hR,hFl,hP1,hf⟩;have hF1:=Fr.chain HF0.out hf (by rw [HS3.out];omega) (Ah HP.out);have hres:=Fr.get hf HQ2.out zr;have hpb:=Fr.get hf HQ0.out zr;have hnb:=Fr.get hf HQ1.out zr;have hsz:=hf.1.size;rw [HS3.out]at hsz;have B4:=(Ao w1.heap.size w1).alloc (Ag _) (Af #[Aa Ab op,Ac s,Aa Ab d,Aa Ab t,Ae b,Ad A1 n1 c1,Ad A2 n2 c2] 28);have hCore:Core p A cap l w w1.heap.size k F [Aa Ab op,Ac s,Aa Ab d,Aa Ab t,Ae b,Ad A1 n1 c1,Ad A2 n2 c2] x r1 (w1.alloc (Af #[Aa Ab op,Ac s,Aa Ab d,Aa Ab t,Ae b,Ad A1 n1 c1,Ad A2 n2 c2] 28)):=⟨qr w1 _,hR.keeps (Keeps.of_below B4),fun k hk=>by have:=hFl k hk;rw [HS3.out]at this;rw [qo];omega,hP1.below B4,hF1.alloc (Ag _) (Ah HP.out) _,qb hres _,qb hpb _,qb hnb _⟩;have HU:Aside0 (BB p A cap l w w1.heap.size R k true n (w1.alloc (Af #[Aa Ab op,Ac s,Aa Ab d,Aa Ab t,Ae b,Ad A1 n1 c1,Ad A2 n2 c2] 28))):=⟨⟨F,op,s,d,t,b,A1,n1,c1,A2,n2,c2,x,r1,hCore,.inl ⟨rfl,HR0.out,HLn.out⟩⟩⟩;have HEb:=Aside0.mk (show w.heap.size+2<w1.heap.size by omega);clear hR hFl hP1 hf hF1 hres hpb hnb hsz B4 hCore hc HR0 HLn HF0 HQ0 HQ1 HQ2 a0 a1;go_wp2_with fail
  clear HS3;generalize w1.heap.size=eb at *;go_loopg [7] n (fun kq v7 w'=>∃ more:Bool,v7= Ae more∧Aside0 (BB p A cap l w eb R k more kq w')∧Aside0 (kq≤n))
  case atStart=>exact⟨true,rfl,HU,⟨Ag _⟩⟩
  case round=>
   obtain⟨more,rfl,hu,HK⟩:=hrel;obtain⟨F,op,s,d,t,b,A1,n1,c1,A2,n2,c2,x,r,hC,hcond⟩:=hu.out;clear HU hu
   rcases hcond with ⟨rfl,hL,hlen⟩ | ⟨rfl,hR⟩
   ·obtain⟨k1,rfl⟩:∃ k1,gk=k1+1:=⟨gk - 1,by omega⟩;simp only [qx6]at hL;obtain⟨o,ho⟩:∃ o,opS (qd2 k) r=o:=⟨_,rfl⟩;rw [qk19,ho]at hL;obtain⟨m,hm⟩:∃ m,(qd2 k).length=m:=⟨_,rfl⟩;have hrk:Calls Aj 97 #[Aa Ab (k:Int)] wr fun e w'=>∃ g cap,e= .returned (Ad (some ⟨g,0,none⟩) m cap)∧w'.heap[g]?=some (Af (qs4 (qd2 k)).toArray 132 (0,0))∧wr.heap.size≤g∧Below wr.heap.size wr w':=(qz12 k (by omega) wr).mono fun e w' ⟨g,cap,he,h⟩=>⟨g,cap,by rw [he,hm],h⟩;have hm4:m≤4:=by rw [← hm];match k with | 0=>decide | 1=>decide | 2=>decide | 3=>decide | 4=>decide | 5=>decide | k+6=>exact Ba _
    have HC:=Aside0.mk hC;have HL:=Aside0.mk hL;have HO:=Aside0.mk ho;have HM:=Aside0.mk hm;have HLn:=Aside0.mk (show 80*r.length+20≤k1+1 from hlen);have nc:=(Ai HC.out.nbox 0).trans (show _=some (Aa Ab (k:Int))from rfl);clear hC hL ho hm hlen;go_wp2_with fail
    refine hrk.mono ?_;rintro e w2 ⟨g,rcap,rfl,hrow,hgl,hbl⟩;have HC2:=Aside0.mk (HC.out.below HP.out hbl);have Hrow:=Aside0.mk hrow;have HO2:Aside0 (opS ((qd2 k).drop 0) r=o):=⟨HO.out⟩;clear hrk hrow hgl hbl nc HC HO;go_wp2_with fail
    go_loopg [7,22] m (fun kq v7 v22 w'=>∃ i:Nat,v7= Ae false∧v22= Aa Ab (i:Int)∧Aside0 (Core p A cap l w eb k F [Aa Ab op,Ac s,Aa Ab d,Aa Ab t,Ae b,Ad A1 n1 c1,Ad A2 n2 c2] x r w')∧Aside0 (w'.heap[g]?=some (Af (qs4 (qd2 k)).toArray 132 (0,0)))∧Aside0 (opS ((qd2 k).drop i) r=o)∧Aside0 (i≤m∧i+kq=m))
    case atStart=>exact⟨0,rfl,rfl,HC2,Hrow,HO2,⟨Ba _,Nat.zero_add _⟩⟩
    case round=>
     obtain⟨i,rfl,rfl,HCi,Hri,HOi,HI⟩:=hrel;clear HC2 Hrow HO2;by_cases hi:i=m
     ·have hR:R=some (x,r):=by
       have h1:=HOi.out;have h2:=HL.out;rw [hi,← HM.out,List.drop_length,qj19]at h1;subst h1;exact h2.symm
      subst hR;have hd:decide (i<m)=false:=by simp;omega
      have hk1:=HK.out;clear hi;go_wp2_with fail
      go_roundg k1
      case measure=>omega
      case rel=>exact⟨false,rfl,⟨⟨F,op,s,d,t,b,A1,n1,c1,A2,n2,c2,x,r,HCi.out,.inr ⟨rfl,rfl⟩⟩⟩,⟨by omega⟩⟩
     ·have him:i<m:=by have:=HI.out.1;omega
      obtain⟨q,hq⟩:∃ q,(qd2 k)[i]?=some q:=⟨_,AG (by rw [HM.out];exact him)⟩;obtain⟨qs,ov⟩:=q;have hat:=qq7 _ i _ hq;have hlt:i<(qd2 k).length:=by rw [HM.out];exact him
      have hdr:(qd2 k).drop i=(qs,ov) :: (qd2 k).drop (i+1):=by rw [List.drop_eq_getElem_cons hlt,Ay.inj ((AG hlt).symm.trans hq)]
      clear hlt;have r0:wr.cell? ⟨g,i*2,none⟩=some (Ac (ba qs)):=by rw [qb1 Hri.out];simpa using hat.1
      have r1:wr.cell? ⟨g,i*2+1,none⟩=some (Aa Ab ov):=by rw [qb1 Hri.out];simpa using hat.2
      have hd:decide (i<m)=true:=by simpa using him
      have i0:(0:Int)≤(i:Int):=by omega
      have i1:(i:Int)<(m:Int):=by omega
      have HOq:=HOi.out;rw [hdr]at HOq;have BO:=(Ao wr.heap.size wr).alloc (Ag _) (Af #[Ac (ba qs),Aa Ab ov] 132);have hC3:=HCi.out.below HP.out BO;have hrow3:=(BO.block g (An.1 Hri.out).1).trans Hri.out;have hob:=qr wr (Af #[Ac (ba qs),Aa Ab ov] 132);have q0:=(Ai hob 0).trans (show _=some (Ac (ba qs))from rfl);have pc:=(Ai hC3.pbox 0).trans (show _=some (qv p)from rfl)
      cases ht:takeW 5 qs r with
      | none=>
       have hO3:opS ((qd2 k).drop (i+1)) r=o:=by rw [← HOq];exact(opS_no ht).symm
       have htk:=qz1 p A cap l r 5 qs _ hC3.par ht;have hi1:=HI.out;have HC3:=Aside0.mk hC3;have Hrow3:=Aside0.mk hrow3;have HO3:=Aside0.mk hO3;obtain⟨k2,hk2⟩:∃ k2,gk=k2+1:=⟨gk - 1,by omega⟩;have HI2:=Aside0.mk hi1;clear hC3 hrow3 hob hO3 BO HOq hdr hat hq ht hi hi1;subst hk2;unfold qv at *;go_wp2_with fail
       refine htk.mono ?_;rintro e w4 ⟨rfl,m4,rfl⟩;clear htk r0 r1 q0 pc;go_wp2_with fail
       go_roundg k2
       case measure=>omega
       case rel=>exact⟨i+1,rfl,rfl,⟨HC3.out.drewN m4⟩,⟨Hrow3.out⟩,HO3,⟨by have:=HI2.out;omega⟩⟩
      | some r1=>
       have hO3:o=some (ov,r1):=by rw [← HOq];exact qi19 ht
       have htk:=qh2 p A cap l r r1 5 qs _ hC3.par ht;have hL3:=HL.out;rw [hO3]at hL3;simp only []at hL3;have hlr:r.length=r1.length+1:=by obtain⟨x0,h0,_⟩:=qg1 ht;rw [h0];rfl
       have hneed:80*r1.length+59 - k≤k1:=by have:=HLn.out;omega
       have hk1:k1≤n:=by have:=HK.out;omega
       have HC3:=Aside0.mk hC3;have HL3:=Aside0.mk hL3;have HOB:=Aside0.mk hob;have HSz:=Aside0.mk (show w.heap.size+2<wr.heap.size∧eb<wr.heap.size from⟨(An.1 HCi.out.res).1,(An.1 HCi.out.box).1⟩);clear hC3 hrow3 hob BO HOq hdr hat hq ht hi hL3 hO3 hlr HOi HI HL HM;unfold qv at *;go_wp2_with fail
       refine htk.mono ?_;rintro e w4 ⟨rfl,hP4,hf4⟩;clear htk r0 q0 pc;have hob4:=Fr.get hf4 HOB.out (by have:=HP.out;have:=HSz.out;omega);have HC4:=Aside0.mk (HC3.out.call HP.out HEb.out hP4 hf4);have hc:=Hb.out k1 hk1 r1 w4.drew hneed hP4.drew HC4.out.pbox HC4.out.nbox;have HLen:=Aside0.mk (show ∀ x r3,qk3 k1 (k+1) r1=some (x,r3)→r3.length<r1.length from fun x r3 hx=>zaz);have oc1:=(Ai hob4 1).trans (show _=some (Aa Ab ov)from rfl);have oa1:=fun o=>(Ai (qb hob4 o) 1).trans (show _=some (Aa Ab ov)from rfl);have HOb4:=Aside0.mk hob4;have HNeed:=Aside0.mk hneed;clear hf4 hP4 hob4 hneed HC3 HOB;generalize hq:qk3 k1 (k+1) r1=qq at hc HL3
       cases qq with
       | none=>
        have hRn:(none:Option (Ex × List Wd))=R:=HL3.out;subst hRn;clear HL3 hq HLen;obtain⟨yc0,yc1,yc2,yc3,yc4,yc5,yc6⟩:=fc7 (HC4.out.box);have HA:∀ o:Obj,(w4.alloc o).heap[eb]?=_:=fun o=>qb HC4.out.box o;have xc0:=fun o=>(Ai ((HA o)) 0).trans (show _=some (Aa Ab op)from rfl);have xf0:=fun o=>qe ((HA o)) 0;have xc1:=fun o=>(Ai ((HA o)) 1).trans (show _=some (Ac s)from rfl);have xf1:=fun o=>qe ((HA o)) 1;have xc2:=fun o=>(Ai ((HA o)) 2).trans (show _=some (Aa Ab d)from rfl);have xf2:=fun o=>qe ((HA o)) 2;have xc3:=fun o=>(Ai ((HA o)) 3).trans (show _=some (Aa Ab t)from rfl);have xf3:=fun o=>qe ((HA o)) 3;have xc4:=fun o=>(Ai ((HA o)) 4).trans (show _=some (Ae b)from rfl);have xf4:=fun o=>qe ((HA o)) 4;have xc5:=fun o=>(Ai ((HA o)) 5).trans (show _=some (Ad A1 n1 c1)from rfl);have xf5:=fun o=>qe ((HA o)) 5;have xc6:=fun o=>(Ai ((HA o)) 6).trans (show _=some (Ad A2 n2 c2)from rfl);have xf6:=fun o=>qe ((HA o)) 6;clear HA;have hc:=Ans.none hc (.agg #[Aa Ab op,Ac s,Aa Ab d,Aa Ab t,Ae b,Ad A1 n1 c1,Ad A2 n2 c2]);unfold qv at *;go_wp2_with fail
        go_region_with (first | (go_at_call 96;refine hc.mono ?_;rintro e w5 (⟨rfl,hf5⟩ | ⟨rfl,rfl,hF⟩);exact⟨rfl,Fr.chain HC4.out.fr.drew hf5 (by show w.heap.size≤w4.heap.size;have:=(An.1 HC4.out.pbox).1;omega) (Ah HP.out),rfl⟩))
        all_goals exact hF.out.elim
       | some x2r2=>
        obtain⟨x2,r2⟩:=x2r2;have hlen2:=HLen.out x2 r2 hq;have HLn2:=Aside0.mk (show 80*r2.length+20≤k1 by have:=HNeed.out;omega);have hc:=Ans.some hc;clear hq HLen hlen2;obtain⟨yc0,yc1,yc2,yc3,yc4,yc5,yc6⟩:=fc7 (HC4.out.box);unfold qv at *;go_wp2_with fail
        have HX:=Aside0.mk (show ∀ (w5:World),PB p A cap l r2 w5→Fr p w4.drew.heap.size w4.drew w5→Core p A cap l w eb k F [Aa Ab op,Ac s,Aa Ab d,Aa Ab t,Ae b,Ad A1 n1 c1,Ad A2 n2 c2] x r2 w5 from fun w5 h5 hf=>HC4.out.drew.call HP.out HEb.out h5 hf);have HY:=Aside0.mk (show ∀ (w5:World),Fr p w4.drew.heap.size w4.drew w5→w5.heap[wr.heap.size]?=some (Af #[Ac (ba qs),Aa Ab ov] 132 (0,0))from fun w5 hf=>Fr.get hf (show w4.drew.heap[wr.heap.size]?=_ from HOb4.out) (by have:=HP.out;have:=HSz.out;omega));go_region_with (first | (go_at_call 96;refine hc.mono ?_;rintro e w5 ⟨F3,op',s',d',t',b',A1',n1',c1',A2',n2',c2',rfl,hR3,hFl3,hP3,hf3⟩;have hC5:=HX.out w5 hP3 hf3;have hq3:=hC5.box;have hy3:=HY.out w5 hf3;have HA:∀ o:Obj,(w5.alloc o).heap[eb]?=_:=fun o=>qb hq3 o;have p1:=(Ai hy3 1).trans (show _=some (Aa Ab ov)from rfl);have p2:=fun o=>(Ai (qb hy3 o) 1).trans (show _=some (Aa Ab ov)from rfl);have vc0:=(Ai (hq3) 0).trans (show _=some (Aa Ab op)from rfl);have vc1:=(Ai (hq3) 1).trans (show _=some (Ac s)from rfl);have vc2:=(Ai (hq3) 2).trans (show _=some (Aa Ab d)from rfl);have vc3:=(Ai (hq3) 3).trans (show _=some (Aa Ab t)from rfl);have vc4:=(Ai (hq3) 4).trans (show _=some (Ae b)from rfl);have vc5:=(Ai (hq3) 5).trans (show _=some (Ad A1 n1 c1)from rfl);have vc6:=(Ai (hq3) 6).trans (show _=some (Ad A2 n2 c2)from rfl);have xc0:=fun o=>(Ai ((HA o)) 0).trans (show _=some (Aa Ab op)from rfl);have xf0:=fun o=>qe ((HA o)) 0;have xc1:=fun o=>(Ai ((HA o)) 1).trans (show _=some (Ac s)from rfl);have xf1:=fun o=>qe ((HA o)) 1;have xc2:=fun o=>(Ai ((HA o)) 2).trans (show _=some (Aa Ab d)from rfl);have xf2:=fun o=>qe ((HA o)) 2;have xc3:=fun o=>(Ai ((HA o)) 3).trans (show _=some (Aa Ab t)from rfl);have xf3:=fun o=>qe ((HA o)) 3;have xc4:=fun o=>(Ai ((HA o)) 4).trans (show _=some (Ae b)from rfl);have xf4:=fun o=>qe ((HA o)) 4;have xc5:=fun o=>(Ai ((HA o)) 5).trans (show _=some (Ad A1 n1 c1)from rfl);have xf5:=fun o=>qe ((HA o)) 5;have xc6:=fun o=>(Ai ((HA o)) 6).trans (show _=some (Ad A2 n2 c2)from rfl);have xf6:=fun o=>qe ((HA o)) 6;have H3:=Aside0.mk (AZ hC5 (AZ hR3 hFl3));clear hR3 hFl3 hP3 hf3 hq3 hy3 HA hC5))
        all_goals go_wp2_with fail
        all_goals
         clear vc0 vc1 vc2 vc3 vc4 vc5 vc6 xc0 xc1 xc2 xc3 xc4 xc5 xc6 xf0 xf1 xf2 xf3 xf4 xf5 xf6 yc0 yc1 yc2 yc3 yc4 yc5 yc6 p1 p2 oc1 oa1;have hL2:=HL3.out;simp only [AH]at hL2;have hk1':=HK.out;have HL2:=Aside0.mk hL2;clear hL2;go_roundg k1
         case measure=>omega
         case rel=>
          have hebL:eb<w4.heap.size:=(An.1 HC4.out.box).1;exact⟨true,rfl,⟨⟨_,_,_,_,_,_,_,_,_,_,_,_,_,_,qn13 ov HW.out HP.out HEb.out H3.out.1 H3.out.2.1 (fun k hk=>by have h5:w4.heap.size≤k∧_:=H3.out.2.2 k hk;omega),.inl ⟨rfl,HL2.out,HLn2.out⟩⟩⟩,⟨by omega⟩⟩
   ·subst hR;have HC:=Aside0.mk hC;clear hC;obtain⟨zc0,zc1,zc2,zc3,zc4,zc5,zc6,zf0,zf1,zf2,zf3,zf4,zf5,zf6⟩:=fd7 (HC.out.res);obtain⟨yc0,yc1,yc2,yc3,yc4,yc5,yc6⟩:=fc7 (HC.out.box);go_wp2_with fail
    have hnF:¬ F (w.heap.size+1+1):=fun hq=>by have:=((show ∀ k,F k→w.heap.size+2<k∧k<wr.heap.size from fun k hk=>⟨(HC.out.bnd k hk).1,(HC.out.bnd k hk).2.1⟩) _ hq).1;omega
    have hnp:p≠w.heap.size+1+1:=by have:=HP.out;omega
    have hF6:=(Fr.set (Fr.set (Fr.set (Fr.set (Fr.set (Fr.set (Fr.set HC.out.fr (g:=w.heap.size+1+1) (.inr (by omega)) (Ah HP.out) 0 (Aa Ab op)) (g:=w.heap.size+1+1) (.inr (by omega)) (Ah HP.out) 1 (Ac s)) (g:=w.heap.size+1+1) (.inr (by omega)) (Ah HP.out) 2 (Aa Ab d)) (g:=w.heap.size+1+1) (.inr (by omega)) (Ah HP.out) 3 (Aa Ab t)) (g:=w.heap.size+1+1) (.inr (by omega)) (Ah HP.out) 4 (Ae b)) (g:=w.heap.size+1+1) (.inr (by omega)) (Ah HP.out) 5 (Ad A1 n1 c1)) (g:=w.heap.size+1+1) (.inr (by omega)) (Ah HP.out) 6 (Ad A2 n2 c2));refine bodyPost_ret (results_cell_row rfl _ _ (w.heap.size+1+1) 28 #[Aa Ab op,Ac s,Aa Ab d,Aa Ab t,Ae b,Ad A1 n1 c1,Ad A2 n2 c2] (0,0) _ rfl (qk (cs':= #[Aa Ab op,Ac s,Aa Ab d,Aa Ab t,Ae b,Ad A1 n1 c1,Ad A2 n2 c2]) (qk (cs':= #[Aa Ab op,Ac s,Aa Ab d,Aa Ab t,Ae b,Ad A1 n1 c1,Ad none 0 0]) (qk (cs':= #[Aa Ab op,Ac s,Aa Ab d,Aa Ab t,Ae b,Ad none 0 0,Ad none 0 0]) (qk (cs':= #[Aa Ab op,Ac s,Aa Ab d,Aa Ab t,Ae false,Ad none 0 0,Ad none 0 0]) (qk (cs':= #[Aa Ab op,Ac s,Aa Ab d,Aa Ab 0,Ae false,Ad none 0 0,Ad none 0 0]) (qk (cs':= #[Aa Ab op,Ac s,Aa Ab 0,Aa Ab 0,Ae false,Ad none 0 0,Ad none 0 0]) (qk (cs':= #[Aa Ab op,Ac ⟨#[]⟩,Aa Ab 0,Aa Ab 0,Ae false,Ad none 0 0,Ad none 0 0]) HC.out.res 0 (Aa Ab op) rfl) 1 (Ac s) rfl) 2 (Aa Ab d) rfl) 3 (Aa Ab t) rfl) 4 (Ae b) rfl) 5 (Ad A1 n1 c1) rfl) 6 (Ad A2 n2 c2) rfl) AJ rfl zm) rfl ?_;refine⟨hF6,_,rfl,⟨F,[Aa Ab op,Ac s,Aa Ab d,Aa Ab t,Ae b,Ad A1 n1 c1,Ad A2 n2 c2],rfl,?_,fun k hk=>⟨zbh,zbe⟩⟩,?_⟩
    ·exact(RepE.keeps (Keeps.of_set _ 6 (Ad A2 n2 c2) (hnF)) (RepE.keeps (Keeps.of_set _ 5 (Ad A1 n1 c1) (hnF)) (RepE.keeps (Keeps.of_set _ 4 (Ae b) (hnF)) (RepE.keeps (Keeps.of_set _ 3 (Aa Ab t) (hnF)) (RepE.keeps (Keeps.of_set _ 2 (Aa Ab d) (hnF)) (RepE.keeps (Keeps.of_set _ 1 (Ac s) (hnF)) (RepE.keeps (Keeps.of_set _ 0 (Aa Ab op) (hnF)) HC.out.rep)))))))
    ·refine HW.out.move hF6 ?_ HC.out.par.suf;rw [PB.sets7 hnp];exact HC.out.par.blk
end Go.Proofs.YtocdckniokhbbaaGreatDoor.Syn
