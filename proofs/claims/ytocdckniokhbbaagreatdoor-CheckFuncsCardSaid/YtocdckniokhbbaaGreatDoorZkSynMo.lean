import Derived.Test.YtocdckniokhbbaaGreatDoorZkZz
import Derived.Test.YtocdckniokhbbaaGreatDoorZkSynSt
set_option linter.unusedVariables false
set_option linter.unusedSimpArgs false
open Go.Value renaming int→Aa,string→Ac,slice→Ad,bool→Ae
open Go.IntKind renaming i64→Ab
open Go.Proofs.Tryz renaming prog→Aj
open Nat renaming le_refl→Ag,lt_of_lt_of_le→AW,le_of_lt→Ah
open Go.RowKit.Below renaming refl→Ao
open Option renaming some→Ay
open Go.Obj renaming cells→Af
open List renaming length_append→Ar,length_cons→AK,length_nil→A8
open Go.Exit renaming noGoto_ret→AV
set_option maxHeartbeats 8000000
set_option maxRecDepth 100000
namespace Go.Proofs.YtocdckniokhbbaaGreatDoor.Syn
open Go.RowKit Go.Shelf YtocdckniokhbbaaGreatDoorW.PrintWords YtocdckniokhbbaaGreatDoorW.PrintLast YtocdckniokhbbaaGreatDoorW.PrintMore CharB SpanA FigD LexA LexF
theorem qw24 (w:World):Calls Aj 210 #[] w fun e w'=>e= .returned (.agg #[Aa Ab 11,Aa Ab 3,Ac ⟨#[]⟩,Ae false,Ad none 0 0])∧Below w.heap.size w w':=by
 go_enter Tryz.func210,Tryz.ntmps210;go_wp2_with fail
 refine bodyPost_ret (results_cell_row rfl _ _ w.heap.size 73 #[Aa Ab 11,Aa Ab 3,Ac ⟨#[]⟩,Ae false,Ad none 0 0] (0,0) _ rfl (qr w _) Tryz.underlying73 rfl zm) rfl ?_;exact⟨rfl,(Ao _ _).alloc (Ag _) _⟩
end Go.Proofs.YtocdckniokhbbaaGreatDoor.Syn
namespace Go.Proofs.YtocdckniokhbbaaGreatDoor.Syn
open Go.RowKit Go.Shelf YtocdckniokhbbaaGreatDoorW.PrintWords YtocdckniokhbbaaGreatDoorW.PrintLast YtocdckniokhbbaaGreatDoorW.PrintMore CharB SpanA FigD LexA LexF
def AnsB {α:Type} (p:Nat) (A:Option Addr) (cap:Nat) (l:List Wd) (B:Nat) (w:World) (R:World→α→Value→Prop) (o:Option (α × List Wd)) (e:Ending) (w':World):Prop:=
 Fr p B w w'∧match o with
 | none=>e=qa2
 | some x=>∃ v,e= .returned v∧R w' x.1 v∧PB p A cap l x.2 w'
theorem Ans.step {p:Nat} {A:Option Addr} {cap:Nat} {l:List Wd} {f:FuncId} {args:Array Value} {W:World} {x:St} {r:List Wd} (h:Calls Aj f args W (Ans p A cap l W (isX W.heap.size) (Ay (x,r)))) :
  Calls Aj f args W fun e w'=>∃ F a k s b A1 n1 c1,e= .returned (.agg #[Aa Ab a,Aa Ab k,Ac s,Ae b,Ad A1 n1 c1])∧RepX F w' x [Aa Ab a,Aa Ab k,Ac s,Ae b,Ad A1 n1 c1]∧(∀ kk,F kk→W.heap.size≤kk∧kk<w'.heap.size)∧PB p A cap l r w'∧Fr p W.heap.size W w':=
 h.mono fun e w' ⟨hf,v,he,hE,hP⟩=>by
  obtain⟨F,a,k,s,b,A1,n1,c1,rfl,hR,hFl⟩:=hE.open;exact⟨F,a,k,s,b,A1,n1,c1,he,hR,hFl,hP,hf⟩
theorem PB.moveB {p B:Nat} {A:Option Addr} {cap:Nat} {l r r':List Wd} {w W:World} (h:PB p A cap l r w) (hf:Fr p B w W) (hrow:∀ g,A=some ⟨g,0,none⟩→l≠ []→g<B) (hb:W.heap[p]?=some (Af #[Ad A l.length cap,Aa Ab ((l.length - r'.length:Nat):Int)] 62 (0,0))) (hs:∃ u,l=u ++ r'):PB p A cap l r' W:=by
 refine⟨hb,hs,?_,h.few⟩
 rcases h.row with h1 | ⟨g,h1,h2,h3,h4⟩
 ·exact .inl h1
 ·by_cases hl:l= []
  ·exact .inl hl
  have hgB:=hrow g h1 hl
  have hg:W.heap[g]?=w.heap[g]? :=by
   rcases Nat.lt_or_gt_of_ne h2 with h5 | h5
   ·exact hf.1.block g h5
   ·exact hf.2 g h5 hgB
  exact .inr ⟨g,h1,h2,AW h3 hf.1.size,fun j u hu=>by rw [World.cell?_of_block (w:=w) hg];exact h4 j u hu⟩
theorem qp6 {n:Nat} {r r':List Wd} {s:St} (h:qv2 n r=some (s,r')):r'.length<r.length:=by obtain⟨u,hu,_,hne,_⟩:=(qj3 n).step h;rw [hu,Ar];have:=List.length_pos_iff.2 hne;omega
theorem qb7 (p:Nat) (A:Option Addr) (cap:Nat) (l r:List Wd) (n:Nat) (hn:80*r.length+20≤n) (B N:Nat) (acc:List St) (v:Value) (F0:Nat→Prop) (xs0:List Value) (w:World) (h:PB p A cap l r w) (hB:p<B) (hBw:B≤w.heap.size) (hN:p<N) (hNB:N≤B) (hacc:acc.length+r.length≤2000)
  (hrow:∀ g,A=some ⟨g,0,none⟩→l≠ []→g<B) (hO:OwnS B N w acc v F0 xs0)
  (hb:∀ m,m≤n→ ∀ r W,80*r.length+40≤m→PB p A cap l r W→Calls Aj 207 #[qv p] W (Ans p A cap l W (isX W.heap.size) (qv2 m r))) :
  Calls Aj 194 #[qv p,v] w (AnsB p A cap l B w (isSs N) (qn2 n acc r)):=by
 have HW:=Aside0.mk h;have HB:=Aside0.mk hB;have hB0:=Aside0.mk hBw;have HN:=Aside0.mk hN;have HNB:=Aside0.mk hNB;have HRow:=Aside0.mk hrow;have Hb:=Aside0.mk hb;obtain⟨R,hR⟩:∃ R,qn2 n acc r=R:=⟨_,rfl⟩;rw [hR];have HO0:=Aside0.mk hO;have HP0:=Aside0.mk h;have HF0:=Aside0.mk (Fr.refl p B w);have HL0:=Aside0.mk hR;have HI0:=Aside0.mk (show acc.length+r.length≤2000∧80*r.length+20≤n∧n≤n from⟨hacc,hn,Ag _⟩);clear h hb hn hR hO hB hBw hN hNB hrow hacc;unfold qv at *;go_enter Tryz.func194,Tryz.ntmps194;go_wp2_with fail
 try go_step3
 try go_wp2_with fail
 go_loopg [1] n (fun kq v1 w'=>∃ acc r F xs,Aside0 (OwnS B N w' acc v1 F xs)∧Aside0 (PB p A cap l r w')∧Aside0 (Fr p B w w')∧Aside0 (qn2 kq acc r=R)∧Aside0 (acc.length+r.length≤2000∧80*r.length+20≤kq∧kq≤n)∧Aside0 (B≤w'.heap.size))
 case atStart=>exact⟨acc,r,_,_,HO0,HP0,HF0,HL0,HI0,hB0⟩
 case round=>
  obtain⟨acc,r,F,xs,HO,HPr,HFr,HLq,HI,HBr⟩:=hrel;clear HO0 HP0 HF0 HL0 HI0;obtain⟨k1,rfl⟩:∃ k1,gk=k1+1:=⟨gk - 1,zan⟩;have hL:=HLq.out;simp only [qn2]at hL;clear HLq
  cases ht:takeW 5 [47] r with
  | some r1=>
   rw [ht]at hL;simp only []at hL;have ht1:=qh2 p A cap l r r1 5 [47] _ HPr.out ht;unfold qv at *;go_wp2_with fail
   refine ht1.mono ?_;rintro e w2 ⟨rfl,hP2,hf⟩;have hO2:=HO.out.fr HB.out HN.out hf;have hF2:=HFr.out.trans (hf.lift HBr.out (Ah HB.out));have hB2:=Aside0.mk (show B≤w2.heap.size by have:=HBr.out;have:=hf.1.size;omega);clear ht1 hf;have hlr:r.length=r1.length+1:=by obtain⟨x0,h0,_⟩:=qg1 ht;rw [h0];rfl
   have hneed:80*r1.length+40≤k1:=by have:=HI.out;omega
   have hk1:k1≤n:=by have:=HI.out;omega
   have HLen:=Aside0.mk (show ∀ x r3,qv2 k1 r1=some (x,r3)→r3.length<r1.length from fun x r3 hx=>qp6 hx);have HI1:=Aside0.mk (show acc.length+r1.length+1≤2000∧80*r1.length+60≤k1 from zan);have HP2:=Aside0.mk hP2;have HO2:=Aside0.mk hO2;have HF2:=Aside0.mk hF2;have hc:=Hb.out k1 hk1 r1;have HL:=Aside0.mk hL;clear hlr hP2 hO2 hF2 hL;have hk1':=Aside0.mk hk1;have hcx:=hc w2 hneed HP2.out;generalize hq:qv2 k1 r1=q at hcx HL
   cases q with
   | none=>
    have hRn:(none:Option (List St × List Wd))=R:=HL.out;subst hRn;clear HL hq HLen hc;go_wp2_with fail
    refine hcx.mono ?_;rintro e w3 ⟨hf,hm⟩;have hm:e=qa2:=hm;subst hm;exact⟨rfl,HF2.out.trans (hf.lift hB2.out (Ah HB.out)),rfl⟩
   | some xr2=>
    obtain⟨x,r2⟩:=xr2;have hlen2:=HLen.out x r2 hq;have HL2:=Aside0.mk hlen2;have hcx:=Ans.step hcx;clear hq HLen hlen2 hc hneed hk1;obtain⟨i0,hi,hz0,hz1,hz2⟩:=info_parts infoS;go_wp2_with fail
    refine hcx.mono ?_;rintro e w3 ⟨G,a,k,s,b,A1,n1,c1,rfl,hR3,hG3,hP3,hf3⟩;have B4:=(Ao w3.heap.size w3).alloc (Ag _) (Af #[Aa Ab a,Aa Ab k,Ac s,Ae b,Ad A1 n1 c1] 73);have hB3:B≤w3.heap.size:=by have:=hB2.out;have:=hf3.1.size;omega
    have hO4:=(HO2.out.fr HB.out HN.out hf3).below B4;have hF4:=(HF2.out.trans (hf3.lift hB2.out (Ah HB.out))).below hB0.out (Ah HB.out) B4;have hP4:=hP3.below B4;have hR4:=RepT.one (hR3.keeps (Keeps.of_below B4));have hB4:B≤(w3.alloc (Af #[Aa Ab a,Aa Ab k,Ac s,Ae b,Ad A1 n1 c1] 73)).heap.size:=by rw [qo];omega
    have hG4:∀ kk,G kk→N≤kk∧kk<(w3.alloc (Af #[Aa Ab a,Aa Ab k,Ac s,Ae b,Ad A1 n1 c1] 73)).heap.size:=fun kk hk=>by have:=hG3 kk hk;have:=hB2.out;have:=HNB.out;rw [qo];omega
    have hGo:∀ g,u1.ownBlock=some g→¬ G g:=fun g e hk=>by have:=hG3 g hk;have:=HO2.out.row.lt g e;omega
    have HO4:=Aside0.mk hO4;have HF4:=Aside0.mk hF4;have HP4:=Aside0.mk hP4;have HR4:=Aside0.mk hR4;have HG4:=Aside0.mk hG4;have HGo:=Aside0.mk hGo;have HB4:=Aside0.mk hB4;have HB3:=Aside0.mk hB3;clear hO4 hF4 hP4 hR4 hG4 hGo hB4 B4 hR3 hG3 hP3 hf3 hcx;have HAcc:=Aside0.mk (show acc.length+2≤2002 by have:=HI1.out;omega);go_wp2_with (at_builtin;refine qo2 _ rfl _ _ 26 rfl B 73 i0 (.agg #[Aa Ab 0,Aa Ab 0,Ac ⟨#[]⟩,Ae false,Ad none 0 0]) 5 64 Tryz.underlying26 hi hz0 hz1 hz2 rfl (by decide) _ _ _ rfl (HO4.out.row) ⟨w3.heap.size,0,none⟩ 1 1 (by omega) [Aa Ab a,Aa Ab k,Ac s,Ae b,Ad A1 n1 c1] rfl rfl ?c1 ?c2 ?c3 ?c4 ?c5 ?_)
    case c1=>exact qm7 w3 #[Aa Ab a,Aa Ab k,Ac s,Ae b,Ad A1 n1 c1] _
    case c2=>intro u hu;simp only [List.mem_cons,List.not_mem_nil,or_false]at hu;rcases hu with rfl | rfl | rfl | rfl | rfl<;>rfl
    case c3=>unfold maxLen;have:=HAcc.out;omega
    case c4=>have:=HAcc.out;omega
    case c5=>exact HB4.out
    intro v' w5 hown' hgrow hwhere;clear hi hz0 hz1 hz2 hB3;have HGs:=Aside0.mk (show(w3.alloc (Af #[Aa Ab a,Aa Ab k,Ac s,Ae b,Ad A1 n1 c1] 73)).heap.size≤w5.heap.size from hgrow.size);have HO5:=Aside0.mk (HO4.out.app HB4.out HR4.out HG4.out HGo.out HGs.out hown' hgrow (fun g e=>by rw [qo];exact hwhere g e));have HF5:=Aside0.mk (HF4.out.grown hgrow hB0.out (Ah HB.out) (qz6 HO4.out.row));have hpb:=(hgrow.block p HP4.out.lt (fun e=>by have:=qz6 HO4.out.row p e.symm;have:=HB.out;omega)).trans HP4.out.blk;have HP5:=Aside0.mk (PB.moveB HW.out HF5.out HRow.out hpb HP4.out.suf);have HBn:=Aside0.mk (show B≤w5.heap.size from Nat.le_trans HB4.out HGs.out);have hL3:qn2 k1 (acc ++ [x]) r2=R:=HL.out;have HL3:=Aside0.mk hL3;clear hpb hown' hgrow hwhere HO4 HF4 HP4 HR4 HG4 HGo HB4 HGs HO2 HF2 HP2 HL hL3;go_wp2_with fail
    go_roundg k1
    case measure=>omega
    case rel=>exact⟨acc ++ [x],r2,_,_,HO5,HP5,HF5,HL3,⟨by have:=HI1.out;have:=HL2.out;have:=hk1'.out;simp only [Ar,AK,A8];omega⟩,HBn⟩
  | none=>
   rw [ht]at hL;simp only []at hL;have ht1:=qz1 p A cap l r 5 [47] _ HPr.out ht;clear ht
   cases ht:takeW 5 [47,47] r with
   | none=>
    rw [ht]at hL;subst hL;have T2:=Aside0.mk (fun m=>qz1 p A cap l r 5 [47,47] _ (HPr.out.drewN m) ht);clear ht;unfold qv at *;go_wp2_with fail
    refine ht1.mono ?_;rintro e w2 ⟨rfl,m,rfl⟩;have t2:=T2.out m;clear ht1 T2;go_wp2_with fail
    refine t2.mono ?_;rintro e w2 ⟨rfl,m2,rfl⟩;clear t2;go_wp2_with fail
    try rw [AV]
    go_ret;exact⟨HFr.out.drewN (m+m2),_,rfl,(HO.out.drewN (m+m2)).is HNB.out,HPr.out.drewN (m+m2)⟩
   | some r1=>
    rw [ht]at hL;simp only []at hL;have T2:=Aside0.mk (fun m=>qh2 p A cap l r r1 5 [47,47] _ (HPr.out.drewN m) ht);unfold qv at *;go_wp2_with fail
    refine ht1.mono ?_;rintro e w2 ⟨rfl,m,rfl⟩;have t2:=T2.out m;clear ht1 T2;unfold qv at t2;go_wp2_with fail
    refine t2.mono ?_;rintro e w2 ⟨rfl,hP2,hf⟩;have hO2:=(HO.out.drewN m).fr HB.out HN.out hf;have hF2:=(HFr.out.drewN m).trans (hf.lift HBr.out (Ah HB.out));have hB2:=Aside0.mk (show B≤w2.heap.size by have:=HBr.out;have h5:wr.heap.size≤w2.heap.size:=hf.1.size;omega);clear t2 hf;have hlr:r.length=r1.length+1:=by obtain⟨x0,h0,_⟩:=qg1 ht;rw [h0];rfl
    have hneed:80*r1.length+40≤k1:=by have:=HI.out;omega
    have hk1:k1≤n:=by have:=HI.out;omega
    have HLen:=Aside0.mk (show ∀ x r3,qv2 k1 r1=some (x,r3)→r3.length<r1.length from fun x r3 hx=>qp6 hx);have HI1:=Aside0.mk (show acc.length+r1.length+1≤2000∧80*r1.length+60≤k1 from zan);have HP2:=Aside0.mk hP2;have HO2:=Aside0.mk hO2;have HF2:=Aside0.mk hF2;have hc:=Hb.out k1 hk1 r1;have HL:=Aside0.mk hL;clear hlr hP2 hO2 hF2 hL;have hk1':=Aside0.mk hk1;go_wp2_with fail
    refine(qw24 _).mono ?_;rintro e w2b ⟨rfl,hbb⟩;have HP2b:=Aside0.mk (HP2.out.below hbb);have HO2b:=Aside0.mk (HO2.out.below hbb);have HF2b:=Aside0.mk (HF2.out.below (by exact hB0.out) (Ah HB.out) hbb);have hBb:B≤w2b.heap.size:=by have:=hB2.out;have:=hbb.size;omega
    have HBb:=Aside0.mk hBb;clear hbb hBb;have hcx:=hc w2b hneed HP2b.out;generalize hq:qv2 k1 r1=q at hcx HL
    cases q with
    | none=>
     have hRn:(none:Option (List St × List Wd))=R:=HL.out;subst hRn;clear HL hq HLen hc;go_wp2_with fail
     refine hcx.mono ?_;rintro e w3 ⟨hf,hm⟩;have hm:e=qa2:=hm;subst hm;exact⟨rfl,HF2b.out.trans (hf.lift HBb.out (Ah HB.out)),rfl⟩
    | some xr2=>
     obtain⟨x,r2⟩:=xr2;have hlen2:=HLen.out x r2 hq;have HL2:=Aside0.mk hlen2;have hcx:=Ans.step hcx;clear hq HLen hlen2 hc hneed hk1;obtain⟨i0,hi,hz0,hz1,hz2⟩:=info_parts infoS;go_wp2_with fail
     refine hcx.mono ?_;rintro e w3 ⟨G,a,k,s,b,A1,n1,c1,rfl,hR3,hG3,hP3,hf3⟩;have B4:=(Ao w3.heap.size w3).alloc (Ag _) (Af #[Aa Ab 11,Aa Ab 3,Ac ⟨#[]⟩,Ae false,Ad none 0 0,Aa Ab a,Aa Ab k,Ac s,Ae b,Ad A1 n1 c1] 73);have hB3:B≤w3.heap.size:=by have:=HBb.out;have:=hf3.1.size;omega
     have hO4:=(HO2b.out.fr HB.out HN.out hf3).below B4;have hF4:=(HF2b.out.trans (hf3.lift HBb.out (Ah HB.out))).below hB0.out (Ah HB.out) B4;have hP4:=hP3.below B4;have hR4:=RepT.app (RepT.one (show RepX G (w3.alloc (Af #[Aa Ab 11,Aa Ab 3,Ac ⟨#[]⟩,Ae false,Ad none 0 0,Aa Ab a,Aa Ab k,Ac s,Ae b,Ad A1 n1 c1] 73)) anyT [Aa Ab 11,Aa Ab 3,Ac ⟨#[]⟩,Ae false,Ad none 0 0] by simp only [anyT,RepX];exact⟨_,rfl,none,0,[],rfl,Ag _,RepR.nil _ _,Row.nil _ _ _⟩)) (RepT.one (hR3.keeps (Keeps.of_below B4)));have hB4:B≤(w3.alloc (Af #[Aa Ab 11,Aa Ab 3,Ac ⟨#[]⟩,Ae false,Ad none 0 0,Aa Ab a,Aa Ab k,Ac s,Ae b,Ad A1 n1 c1] 73)).heap.size:=by rw [qo];omega
     have hG4:∀ kk,G kk→N≤kk∧kk<(w3.alloc (Af #[Aa Ab 11,Aa Ab 3,Ac ⟨#[]⟩,Ae false,Ad none 0 0,Aa Ab a,Aa Ab k,Ac s,Ae b,Ad A1 n1 c1] 73)).heap.size:=fun kk hk=>by have:=hG3 kk hk;have:=HBb.out;have:=HNB.out;rw [qo];omega
     have hGo:∀ g,u1.ownBlock=some g→¬ G g:=fun g e hk=>by have:=hG3 g hk;have:=HO2b.out.row.lt g e;omega
     have HO4:=Aside0.mk hO4;have HF4:=Aside0.mk hF4;have HP4:=Aside0.mk hP4;have HR4:=Aside0.mk hR4;have HG4:=Aside0.mk hG4;have HGo:=Aside0.mk hGo;have HB4:=Aside0.mk hB4;have HB3:=Aside0.mk hB3;clear hO4 hF4 hP4 hR4 hG4 hGo hB4 B4 hR3 hG3 hP3 hf3 hcx;have HAcc:=Aside0.mk (show acc.length+2≤2002 by have:=HI1.out;omega);go_wp2_with (at_builtin;refine qo2 _ rfl _ _ 26 rfl B 73 i0 (.agg #[Aa Ab 0,Aa Ab 0,Ac ⟨#[]⟩,Ae false,Ad none 0 0]) 5 64 Tryz.underlying26 hi hz0 hz1 hz2 rfl (by decide) _ _ _ rfl (HO4.out.row) ⟨w3.heap.size,0,none⟩ 2 2 (by omega) [Aa Ab 11,Aa Ab 3,Ac ⟨#[]⟩,Ae false,Ad none 0 0,Aa Ab a,Aa Ab k,Ac s,Ae b,Ad A1 n1 c1] rfl rfl ?c1 ?c2 ?c3 ?c4 ?c5 ?_)
     case c1=>exact qm7 w3 #[Aa Ab 11,Aa Ab 3,Ac ⟨#[]⟩,Ae false,Ad none 0 0,Aa Ab a,Aa Ab k,Ac s,Ae b,Ad A1 n1 c1] _
     case c2=>intro u hu;simp only [List.mem_cons,List.not_mem_nil,or_false]at hu;rcases hu with rfl | rfl | rfl | rfl | rfl | rfl | rfl | rfl | rfl | rfl<;>rfl
     case c3=>unfold maxLen;have:=HAcc.out;omega
     case c4=>have:=HAcc.out;omega
     case c5=>exact HB4.out
     intro v' w5 hown' hgrow hwhere;clear hi hz0 hz1 hz2 hB3;have HGs:=Aside0.mk (show(w3.alloc (Af #[Aa Ab 11,Aa Ab 3,Ac ⟨#[]⟩,Ae false,Ad none 0 0,Aa Ab a,Aa Ab k,Ac s,Ae b,Ad A1 n1 c1] 73)).heap.size≤w5.heap.size from hgrow.size);have HO5:=Aside0.mk (HO4.out.app HB4.out HR4.out HG4.out HGo.out HGs.out hown' hgrow (fun g e=>by rw [qo];exact hwhere g e));have HF5:=Aside0.mk (HF4.out.grown hgrow hB0.out (Ah HB.out) (qz6 HO4.out.row));have hpb:=(hgrow.block p HP4.out.lt (fun e=>by have:=qz6 HO4.out.row p e.symm;have:=HB.out;omega)).trans HP4.out.blk;have HP5:=Aside0.mk (PB.moveB HW.out HF5.out HRow.out hpb HP4.out.suf);have HBn:=Aside0.mk (show B≤w5.heap.size from Nat.le_trans HB4.out HGs.out);have hL3:qn2 k1 (acc ++ [anyT,x]) r2=R:=HL.out;have HL3:=Aside0.mk hL3;clear hpb hown' hgrow hwhere HO4 HF4 HP4 HR4 HG4 HGo HB4 HGs HO2 HF2 HP2 HO2b HF2b HP2b HL hL3;go_wp2_with fail
     go_roundg k1
     case measure=>omega
     case rel=>exact⟨acc ++ [anyT,x],r2,_,_,HO5,HP5,HF5,HL3,⟨by have:=HI1.out;have:=HL2.out;have:=hk1'.out;simp only [Ar,AK,A8];omega⟩,HBn⟩
end Go.Proofs.YtocdckniokhbbaaGreatDoor.Syn
