import Derived.Test.YtocdckniokhbbaaGreatDoorZkZz
import Derived.Test.YtocdckniokhbbaaGreatDoorZkLexL
import Derived.Deep.LoopGhost
set_option linter.unusedVariables false
set_option linter.unusedSimpArgs false
open Go.Value renaming int→Aa,slice→Ad,string→Ac,bool→Ae
open Go.IntKind renaming i64→Ab
open Go.Obj renaming cells→Af
open Go.Proofs.Tryz renaming prog→Aj
open Go.Lib renaming size_eq→Bh,frozen_of_heap→Bd
open Go.Exit renaming noGoto_ret→AV
open Go.RowKit.Below renaming refl→Ao,heap_setCell→AX
open Nat renaming le_refl→Ag,le_of_lt→Ah
open Go.ByteArray renaming toList_eq→Aq
open Array renaming getElem?_eq_some_iff→An
open List renaming length_append→Ar
set_option maxHeartbeats 40000000
set_option maxRecDepth 100000
namespace Go.Proofs.YtocdckniokhbbaaGreatDoor.LexM
open Go.RowKit Go.Shelf YtocdckniokhbbaaGreatDoorW.PrintWords YtocdckniokhbbaaGreatDoorW.PrintLast YtocdckniokhbbaaGreatDoorW.PrintMore CharA CharB CharD CharF SpanA FigA FigC FigD FigG FigH FigI LexA LexF LexG LexH LexI LexJ LexK LexL
def Got (w:World) (R:List Wd × Int) (e:Ending) (w':World):Prop:=
 ∃ A cap,e= .returned (.tuple #[Ad A R.1.length cap,Aa Ab R.2])∧w'.ownsRow w.heap.size 93 4 (Ad A R.1.length cap) R.1.length (wcs R.1)∧Below w.heap.size w w'
theorem qk2 {w w':World} {n:Int} (h:Below w.heap.size w w'):Got w ([],n) (.returned (.tuple #[Ad none 0 0,Aa Ab n])) w':=
 ⟨none,0,rfl,World.ownsRow_nil _ _ _ _,h⟩
def qu9 (f:Fn) (b:Nat):Value:= .func f #[.pointer (some ⟨b,0,none⟩)] #[]
def Seven (b g:Nat) (W:World):Prop:=W.heap[g]?=some (Af #[qu9 (.func 45) b,qu9 (.func 46) b,qu9 (.func 47) b,qu9 (.func 48) b,qu9 (.func 49) b,qu9 (.func 50) b,qu9 (.func 51) b] 22 (0,0))
theorem qh19 {w:World} {B B':Nat} {t:TypeId} {m n:Nat} {v:Value} {xs:List Value} (hB:B'≤B) (h:w.ownsRow B t m v n xs):w.ownsRow B' t m v n xs:=by
 refine⟨h.1,?_⟩
 rcases h.2 with h2 | ⟨g,cap,cur,hv,hg,r⟩
 ·exact .inl h2
 ·exact .inr ⟨g,cap,cur,hv,Nat.le_trans hB hg,r⟩
theorem qt23 (n:Nat) (l:List Wd):qo8 n [] l=(l,0):=by cases n<;>simp [qo8]
theorem qu23 (n:Nat) (c:UInt8) (t:List UInt8) (l:List Wd):qo8 (n+1) (c :: t) l=match qh3 (qe8 c t (qe3 l))with | none=>([],30) | some (w,r)=>if 120<l.length+1 then([],3)else qo8 n (r.dropWhile spB) (l ++ [w]):=by
 simp only [qo8];rw [if_neg (by simp),qi15]
 cases qh3 (qe8 c t (qe3 l))with
 | none=>rfl
 | some q=>obtain⟨v,r⟩:=q;rfl
theorem qw23 (s:ByteArray) (w:World) (h:400<s.size):Calls Aj 24 #[Ac s] w (Got w (qi10 s.data.toList)):=by
 have e:qi10 s.data.toList=([],3):=by unfold qi10;rw [if_pos (by rw [← Bh];exact h)]
 rw [e];have hb:decide ((400:Int)<(s.size:Int))=true:=by simp;omega
 clear h e;go_enter Tryz.func24,Tryz.ntmps24;go_wp2_with fail
 go_step3;go_wp2_with fail
 try rw [AV]
 go_ret2;exact qk2 (Ao _ _)
theorem qx23 (s:ByteArray) (w:World) (h:s.size≤400) (hT:qz5 w) (ht:qc10 s=false):Calls Aj 24 #[Ac s] w (Got w (qi10 s.data.toList)):=by
 have e:qi10 s.data.toList=([],10):=by unfold qi10;rw [if_neg za3,qt1,if_neg (by rw [ht];simp)]
 rw [e];have hb:decide ((400:Int)<(s.size:Int))=false:=by simp;omega
 have hc:=qp5 s w (by omega) hT;rw [ht]at hc;clear h e hT ht;go_enter Tryz.func24,Tryz.ntmps24;go_wp2_with fail
 go_step3;go_wp2_with fail
 refine hc.mono ?_;rintro e w1 ⟨rfl,b1⟩;go_wp2_with fail
 try rw [AV]
 go_ret2;exact qk2 b1
theorem qy13 (s:List UInt8):(s.dropWhile spB).length≤s.length:=(List.dropWhile_sublist _).length_le
theorem qv23 (s:ByteArray) (w:World) (h:s.size≤400) (hT:qz5 w) (ht:qc10 s=true):Calls Aj 24 #[Ac s] w (Got w (qi10 s.data.toList)):=by
 have e:qi10 s.data.toList=qo8 s.size (s.data.toList.dropWhile spB) []:=by unfold qi10;rw [if_neg za3,qt1,if_pos ht,← Bh]
 obtain⟨R,hR⟩:∃ R,qi10 s.data.toList=R:=⟨_,rfl⟩;rw [hR];rw [e]at hR;have hb:decide ((400:Int)<(s.size:Int))=false:=by simp;omega
 have hc:=qp5 s w (by omega) hT;rw [ht]at hc;have hl:=fun W=>qn3 s W;have hsl:(s.data.toList.dropWhile spB).length≤s.size:=by rw [Bh];exact qy13 _
 have HT:=Aside0.mk hT;have HR:=Aside0.mk hR;have HS:=Aside0.mk hsl;have HH:=Aside0.mk h;clear e hT ht hR hsl h;generalize s.data.toList.dropWhile spB=s0 at *;go_enter Tryz.func24,Tryz.ntmps24;go_wp2_with fail
 go_step3;go_wp2_with fail
 refine hc.mono ?_;rintro e w1 ⟨rfl,b1⟩;have B1:=Aside0.mk b1;clear b1 hc;go_wp2_with fail
 refine(hl _).mono ?_;rintro e w2 ⟨rfl,b2⟩;have B2:=Aside0.mk (chain B1.out (Ag _) b2);clear b2 hl B1;go_wp2_with fail
 go_step3;go_wp2_with fail
 have hb2:=B2.out.size;have hlex0:LB w2.heap.size (w2.heap.size+2) (ba s0) [] false (w2.alloc (Af #[Ac (ba s0),Ad none 0 0,Ae false] 90)):=⟨_,qr w2 _,World.ownsRow_nil _ _ _ _⟩;have al1:=(Ao w2.heap.size w2).alloc (Ag _) (Af #[Ac (ba s0),Ad none 0 0,Ae false] 90);have hsz1:(w2.alloc (Af #[Ac (ba s0),Ad none 0 0,Ae false] 90)).heap.size=w2.heap.size+1:=by simp
 generalize hW1:w2.alloc (Af #[Ac (ba s0),Ad none 0 0,Ae false] 90)=W1 at *;have al2:=(Ao W1.heap.size W1).alloc (Ag _) (Af #[qu9 (.func 45) w2.heap.size,qu9 (.func 46) w2.heap.size,qu9 (.func 47) w2.heap.size,qu9 (.func 48) w2.heap.size,qu9 (.func 49) w2.heap.size,qu9 (.func 50) w2.heap.size,qu9 (.func 51) w2.heap.size] 22);have HL0:=Aside0.mk (hlex0.below al2);have hseven:=qr W1 (Af #[qu9 (.func 45) w2.heap.size,qu9 (.func 46) w2.heap.size,qu9 (.func 47) w2.heap.size,qu9 (.func 48) w2.heap.size,qu9 (.func 49) w2.heap.size,qu9 (.func 50) w2.heap.size,qu9 (.func 51) w2.heap.size] 22);rw [hsz1]at hseven;have H70:Aside0 (Seven w2.heap.size (w2.heap.size+1) _):=⟨hseven⟩;have HB0:=Aside0.mk ((chain B2.out (Ag _) al1).trans (al2.mono (by rw [hsz1];omega)));clear al1 al2 hlex0 hseven hW1;unfold qu9 at HL0 H70 HB0;generalize w2.heap.size=b at *;obtain⟨B,hBb⟩:∃ B,b+2=B:=⟨_,rfl⟩;rw [hBb]at HL0;have hbB:b<B:=by omega
 have hB2b:b+1<B:=by omega
 have hwb:w.heap.size≤b:=hb2;have HBB:=Aside0.mk hBb;clear hBb hsz1 hb2 B2;go_loopg [] s.size (fun kq w'=>∃ (r:List UInt8) (l:List Wd),Aside0 (LB b B (ba r) l false w')∧Aside0 (Seven b (b+1) w')∧Aside0 (Below w.heap.size w w')∧Aside0 (qo8 kq r l=R)∧Aside0 (r.length≤kq)∧Aside0 (r.length≤400)∧Aside0 (l.length≤120))
 case atStart=>exact⟨s0,[],HL0,H70,HB0,HR,HS,⟨by have:=HS.out;have:=HH.out;omega⟩,⟨by simp⟩⟩
 case round=>
  obtain⟨r,l,HLo,H7,HBl,HLx,HK,H4,H12⟩:=hrel;clear HL0 H70 HB0 HR HS HH
  cases r with
  | nil=>
   have hR:=HLx.out;rw [qt23]at hR;subst hR;obtain⟨v,h1,h2⟩:=HLo.out;obtain⟨A,cap,rfl⟩:=ql3 h2;have c0:wr.cell? ⟨b,0,none⟩=some (Ac (ba [])):=by rw [qb1 h1];rfl
   have c1:wr.cell? ⟨b,1,none⟩=some (Ad A l.length cap):=by rw [qb1 h1];rfl
   have d0:(ba []).toList= []:=by rw [Aq];rfl
   have H2:=Aside0.mk h2;generalize ba []=z at *;clear h1 h2 HLx HLo;go_wp2_with fail
   try rw [AV]
   go_ret2;exact⟨A,cap,rfl,qh19 (Nat.le_trans hwb (Ah hbB)) H2.out,HBl.out⟩
  | cons c t=>
   obtain⟨k1,rfl⟩:∃ k1,gk=k1+1:=⟨gk - 1,by have:=HK.out;simp at this;omega⟩;have hR:=HLx.out;rw [qu23]at hR;obtain⟨o,ho⟩:∃ o,qh3 (qe8 c t (qe3 l))=o:=⟨_,rfl⟩;rw [ho]at hR;have HRo:=Aside0.mk hR;have HLess:Aside0 (∀ v r',o=some (v,r')→r'.length≤t.length):=⟨fun v r' h=>by have:=qj15 (s:=c :: t) (e:=qe3 l) (w:=v) (r:=r') (by rw [qi15,ho,h]);simp at this;omega⟩;have H0F:=Aside0.mk ho;have hl1:l.length≤1000:=by have:=H12.out;omega
   have ht1:t.length≤1000:=by have:=H4.out;simp at this;omega
   have HLs:Aside0 (t.length≤k1∧t.length≤400∧l.length≤120):=⟨by have:=HK.out;have:=H4.out;have:=H12.out;simp at *;omega⟩;have W0:Aside0 (∀ W,LB b B (ba (c :: t)) l false W→B≤W.heap.size→qz5 W→Calls Aj 45 #[.pointer (some ⟨b,0,none⟩)] W (WP b B (ba (c :: t)) l W (way0 c t))):=⟨fun W hL hW hTW=>qw17 b B c t l W hL hbB hW hl1 ht1 hTW⟩;have W1:Aside0 (∀ W,LB b B (ba (c :: t)) l false W→B≤W.heap.size→qz5 W→Calls Aj 46 #[.pointer (some ⟨b,0,none⟩)] W (WP b B (ba (c :: t)) l W (way1 (c :: t)))):=⟨fun W hL hW hTW=>qv17 b B c t l W hL hbB hW hl1 ht1⟩;have W2:Aside0 (∀ W,LB b B (ba (c :: t)) l false W→B≤W.heap.size→qz5 W→Calls Aj 47 #[.pointer (some ⟨b,0,none⟩)] W (WP b B (ba (c :: t)) l W (way2 (c :: t)))):=⟨fun W hL hW hTW=>qu17 b B c t l W hL hbB hW hl1 ht1 hTW⟩;have W3:Aside0 (∀ W,LB b B (ba (c :: t)) l false W→B≤W.heap.size→qz5 W→Calls Aj 48 #[.pointer (some ⟨b,0,none⟩)] W (WP b B (ba (c :: t)) l W (way3 c t (qe3 l)))):=⟨fun W hL hW hTW=>qt17 b B c t l W hL hbB hW hl1 ht1 hTW⟩;have W4:Aside0 (∀ W,LB b B (ba (c :: t)) l false W→B≤W.heap.size→qz5 W→Calls Aj 49 #[.pointer (some ⟨b,0,none⟩)] W (WP b B (ba (c :: t)) l W (qu21 c t))):=⟨fun W hL hW hTW=>qs17 b B c t l W hL hbB hW hl1 ht1 hTW⟩;have W5:Aside0 (∀ W,LB b B (ba (c :: t)) l false W→B≤W.heap.size→qz5 W→Calls Aj 50 #[.pointer (some ⟨b,0,none⟩)] W (WP b B (ba (c :: t)) l W (qn21 (c :: t) (qe3 l)))):=⟨fun W hL hW hTW=>qr17 b B c t l W hL hbB hW hl1 ht1 hTW⟩;have W6:Aside0 (∀ W,LB b B (ba (c :: t)) l false W→B≤W.heap.size→qz5 W→Calls Aj 51 #[.pointer (some ⟨b,0,none⟩)] W (WP b B (ba (c :: t)) l W ((some none:Option (Option (Wd × List UInt8)))))):=⟨fun W hL hW hTW=>qq17 b B c t l W hL hbB hW hl1 ht1 hTW⟩;have c0:wr.cell? ⟨b,0,none⟩=some (Ac (ba (c :: t))):=by obtain⟨v,h1,_⟩:=HLo.out;rw [qb1 h1];rfl
   have d0:(ba (c :: t)).toList.isEmpty=false:=by rw [Aq];rfl
   clear hR ho HLx HK H4 H12 hl1 ht1;go_wp2_with fail
   go_loopg [40] 7 (fun kq v40 w'=>∃ i:Nat,v40= Aa Ab (i:Int)∧Aside0 (i+kq=7)∧Aside0 (LB b B (ba (c :: t)) l false w')∧Aside0 (Seven b (b+1) w')∧Aside0 (Below w.heap.size w w')∧Aside0 (qh3 ((qe8 c t (qe3 l)).drop i)=o)∧Aside0 (i≤6))
   case atStart=>exact⟨0,rfl,⟨rfl⟩,HLo,H7,HBl,H0F,⟨by omega⟩⟩
   case round=>
    obtain⟨i,rfl,HIK,HLi,H7i,HBi,HF,HI⟩:=hrel;clear HLo H7 HBl H0F c0;have hTw:qz5 wr:=qj1 HT.out HBi.out;have hB2:B≤wr.heap.size:=by have:=(An.1 H7i.out).1;have:=HBB.out;omega
    have hi:=HI.out;clear HI
    rcases(show i=0∨i=1∨i=2∨i=3∨i=4∨i=5∨i=6 by omega)with rfl | rfl | rfl | rfl | rfl | rfl | rfl
    ·have c0:wr.cell? ⟨b+1,0,none⟩=some (.func (.func 45) #[.pointer (some ⟨b,0,none⟩)] #[]):=by rw [qb1 H7i.out];rfl
     have hw:=W0.out _ HLi.out hB2 hTw;have hF:qh3 (way0 c t :: (qe8 c t (qe3 l)).drop 1)=o:=HF.out;generalize way0 c t=q at hw hF
     rcases q with _ | _ | ⟨v,r'⟩
     ·rw [qq3]at hF;have HF2:=Aside0.mk hF;have hw2:Calls Aj 45 #[.pointer (some ⟨b,0,none⟩)] wr fun e w'=>e= .returned (Ae false)∧Fr b B wr w'∧LB b B (ba (c :: t)) l false w':=hw;clear hF hw hTw hB2;obtain⟨k2,rfl⟩:∃ k2,gk=k2+1:=⟨gk - 1,za1⟩;go_wp2_with fail
      refine hw2.mono ?_;rintro e w3 ⟨rfl,f3,h3⟩;have HB3:=Aside0.mk (HBi.out.trans (f3.1.mono hwb));have H73:=Aside0.mk ((f3.2 (b+1) (by omega) (by omega)).trans H7i.out);have HL3:=Aside0.mk h3;clear f3 h3 hw2;go_wp2_with fail
      go_roundg k2
      case measure=>omega
      case rel=>exact⟨1,rfl,⟨za1⟩,HL3,H73,HB3,HF2,⟨by omega⟩⟩
     ·obtain rfl:none=o:=hF;have hw2:Calls Aj 45 #[.pointer (some ⟨b,0,none⟩)] wr fun e w'=>e= .returned (Ae true)∧Fr b B wr w'∧LB b B (ba (c :: t)) l true w':=hw;have hR2:(([],30):List Wd × Int)=R:=HRo.out;subst hR2;clear hw hTw hB2;go_wp2_with fail
      refine hw2.mono ?_;rintro e w3 ⟨rfl,f3,h3⟩;have HB3:=Aside0.mk (HBi.out.trans (f3.1.mono hwb));have g2:w3.cell? ⟨b,2,none⟩=some (Ae true):=by obtain⟨v,h5,_⟩:=h3;rw [qb1 h5];rfl
      clear f3 h3 hw2;go_wp2_with fail
      try rw [AV]
      go_ret2;exact qk2 HB3.out
     ·obtain rfl:some (v,r')=o:=hF;have hw2:Calls Aj 45 #[.pointer (some ⟨b,0,none⟩)] wr fun e w'=>e= .returned (Ae true)∧Fr b B wr w'∧LB b B (ba r') (l ++ [v]) false w':=hw;have hless:=HLess.out v r' rfl;have hRo:(if 120<l.length+1 then(([],3):List Wd × Int)else qo8 k1 (r'.dropWhile spB) (l ++ [v]))=R:=HRo.out;clear hw hTw hB2;by_cases h120:120<l.length+1
      ·rw [if_pos h120]at hRo;subst hRo;go_wp2_with fail
       refine hw2.mono ?_;rintro e w3 ⟨rfl,f3,h3⟩;have HB3:=Aside0.mk (HBi.out.trans (f3.1.mono hwb));obtain⟨v3,h5,h6⟩:=h3;rw [Ar]at h6;obtain⟨g3,cap3,rfl⟩:=qj2 h6;have g2:w3.cell? ⟨b,2,none⟩=some (Ae false):=by rw [qb1 h5];rfl
       have g1:w3.cell? ⟨b,1,none⟩=some (Ad (some ⟨g3,0,none⟩) (l.length+1) cap3):=by rw [qb1 h5];rfl
       have hdc:decide ((120:Int)<(l.length:Int)+1)=true:=by simp;omega
       clear f3 h5 h6 hw2;go_wp2_with fail
       try rw [AV]
       go_ret2;exact qk2 HB3.out
      ·rw [if_neg h120]at hRo;have HRn:=Aside0.mk hRo;have hdl:=qy13 r';have hls:=HLs.out;clear hRo;go_wp2_with fail
       refine hw2.mono ?_;rintro e w3 ⟨rfl,f3,h3⟩;have HB3:=Aside0.mk (HBi.out.trans (f3.1.mono hwb));have H73:=Aside0.mk ((f3.2 (b+1) (by omega) (by omega)).trans H7i.out);have HL3:=Aside0.mk h3;obtain⟨v3,h5,h6⟩:=h3;rw [Ar]at h6;obtain⟨g3,cap3,rfl⟩:=qj2 h6;have g2:w3.cell? ⟨b,2,none⟩=some (Ae false):=by rw [qb1 h5];rfl
       have g1:w3.cell? ⟨b,1,none⟩=some (Ad (some ⟨g3,0,none⟩) (l.length+1) cap3):=by rw [qb1 h5];rfl
       have g0:w3.cell? ⟨b,0,none⟩=some (Ac (ba r')):=by rw [qb1 h5];rfl
       have hdc:decide ((120:Int)<(l.length:Int)+1)=false:=by simp;omega
       have hTL:=qn3 (ba r') w3;rw [qe1]at hTL;clear f3 h5 h6 hw2;go_wp2_with fail
       refine hTL.mono ?_;rintro e w4 ⟨rfl,b4⟩;have hL4:=HL3.out.below b4;have HL5:=Aside0.mk (hL4.put_s (s':=ba (r'.dropWhile spB)) hbB);have z0:w4.cell? ⟨b,0,none⟩=some (Ac (ba r')):=by obtain⟨v,h5,_⟩:=hL4;rw [qb1 h5];rfl
       have zf:w4.frozen? ⟨b,0,none⟩=false:=by obtain⟨v,h5,_⟩:=hL4;exact Bd h5 0
       have HB5:=Aside0.mk ((chain HB3.out (Ag _) b4).setCell (p:=⟨b,0,none⟩) hwb (Ac (ba (r'.dropWhile spB))));have H75:=Aside0.mk ((AX w4 ⟨b,0,none⟩ (Ac (ba (r'.dropWhile spB))) (b+1) (by show b+1≠b;omega)).trans ((b4.block (b+1) (An.1 H73.out).1).trans H73.out));clear b4 hL4 hTL g0 g1 g2 hdc;go_wp2_with fail
       go_roundg k1
       case measure=>omega
       case rel=>exact⟨r'.dropWhile spB,l ++ [v],HL5,H75,HB5,HRn,⟨by omega⟩,⟨by omega⟩,⟨zay⟩⟩
    ·have c1:wr.cell? ⟨b+1,1,none⟩=some (.func (.func 46) #[.pointer (some ⟨b,0,none⟩)] #[]):=by rw [qb1 H7i.out];rfl
     have hw:=W1.out _ HLi.out hB2 hTw;have hF:qh3 (way1 (c :: t) :: (qe8 c t (qe3 l)).drop 2)=o:=HF.out;generalize way1 (c :: t)=q at hw hF
     rcases q with _ | _ | ⟨v,r'⟩
     ·rw [qq3]at hF;have HF2:=Aside0.mk hF;have hw2:Calls Aj 46 #[.pointer (some ⟨b,0,none⟩)] wr fun e w'=>e= .returned (Ae false)∧Fr b B wr w'∧LB b B (ba (c :: t)) l false w':=hw;clear hF hw hTw hB2;obtain⟨k2,rfl⟩:∃ k2,gk=k2+1:=⟨gk - 1,za1⟩;go_wp2_with fail
      refine hw2.mono ?_;rintro e w3 ⟨rfl,f3,h3⟩;have HB3:=Aside0.mk (HBi.out.trans (f3.1.mono hwb));have H73:=Aside0.mk ((f3.2 (b+1) (by omega) (by omega)).trans H7i.out);have HL3:=Aside0.mk h3;clear f3 h3 hw2;go_wp2_with fail
      go_roundg k2
      case measure=>omega
      case rel=>exact⟨2,rfl,⟨za1⟩,HL3,H73,HB3,HF2,⟨by omega⟩⟩
     ·obtain rfl:none=o:=hF;have hw2:Calls Aj 46 #[.pointer (some ⟨b,0,none⟩)] wr fun e w'=>e= .returned (Ae true)∧Fr b B wr w'∧LB b B (ba (c :: t)) l true w':=hw;have hR2:(([],30):List Wd × Int)=R:=HRo.out;subst hR2;clear hw hTw hB2;go_wp2_with fail
      refine hw2.mono ?_;rintro e w3 ⟨rfl,f3,h3⟩;have HB3:=Aside0.mk (HBi.out.trans (f3.1.mono hwb));have g2:w3.cell? ⟨b,2,none⟩=some (Ae true):=by obtain⟨v,h5,_⟩:=h3;rw [qb1 h5];rfl
      clear f3 h3 hw2;go_wp2_with fail
      try rw [AV]
      go_ret2;exact qk2 HB3.out
     ·obtain rfl:some (v,r')=o:=hF;have hw2:Calls Aj 46 #[.pointer (some ⟨b,0,none⟩)] wr fun e w'=>e= .returned (Ae true)∧Fr b B wr w'∧LB b B (ba r') (l ++ [v]) false w':=hw;have hless:=HLess.out v r' rfl;have hRo:(if 120<l.length+1 then(([],3):List Wd × Int)else qo8 k1 (r'.dropWhile spB) (l ++ [v]))=R:=HRo.out;clear hw hTw hB2;by_cases h120:120<l.length+1
      ·rw [if_pos h120]at hRo;subst hRo;go_wp2_with fail
       refine hw2.mono ?_;rintro e w3 ⟨rfl,f3,h3⟩;have HB3:=Aside0.mk (HBi.out.trans (f3.1.mono hwb));obtain⟨v3,h5,h6⟩:=h3;rw [Ar]at h6;obtain⟨g3,cap3,rfl⟩:=qj2 h6;have g2:w3.cell? ⟨b,2,none⟩=some (Ae false):=by rw [qb1 h5];rfl
       have g1:w3.cell? ⟨b,1,none⟩=some (Ad (some ⟨g3,0,none⟩) (l.length+1) cap3):=by rw [qb1 h5];rfl
       have hdc:decide ((120:Int)<(l.length:Int)+1)=true:=by simp;omega
       clear f3 h5 h6 hw2;go_wp2_with fail
       try rw [AV]
       go_ret2;exact qk2 HB3.out
      ·rw [if_neg h120]at hRo;have HRn:=Aside0.mk hRo;have hdl:=qy13 r';have hls:=HLs.out;clear hRo;go_wp2_with fail
       refine hw2.mono ?_;rintro e w3 ⟨rfl,f3,h3⟩;have HB3:=Aside0.mk (HBi.out.trans (f3.1.mono hwb));have H73:=Aside0.mk ((f3.2 (b+1) (by omega) (by omega)).trans H7i.out);have HL3:=Aside0.mk h3;obtain⟨v3,h5,h6⟩:=h3;rw [Ar]at h6;obtain⟨g3,cap3,rfl⟩:=qj2 h6;have g2:w3.cell? ⟨b,2,none⟩=some (Ae false):=by rw [qb1 h5];rfl
       have g1:w3.cell? ⟨b,1,none⟩=some (Ad (some ⟨g3,0,none⟩) (l.length+1) cap3):=by rw [qb1 h5];rfl
       have g0:w3.cell? ⟨b,0,none⟩=some (Ac (ba r')):=by rw [qb1 h5];rfl
       have hdc:decide ((120:Int)<(l.length:Int)+1)=false:=by simp;omega
       have hTL:=qn3 (ba r') w3;rw [qe1]at hTL;clear f3 h5 h6 hw2;go_wp2_with fail
       refine hTL.mono ?_;rintro e w4 ⟨rfl,b4⟩;have hL4:=HL3.out.below b4;have HL5:=Aside0.mk (hL4.put_s (s':=ba (r'.dropWhile spB)) hbB);have z0:w4.cell? ⟨b,0,none⟩=some (Ac (ba r')):=by obtain⟨v,h5,_⟩:=hL4;rw [qb1 h5];rfl
       have zf:w4.frozen? ⟨b,0,none⟩=false:=by obtain⟨v,h5,_⟩:=hL4;exact Bd h5 0
       have HB5:=Aside0.mk ((chain HB3.out (Ag _) b4).setCell (p:=⟨b,0,none⟩) hwb (Ac (ba (r'.dropWhile spB))));have H75:=Aside0.mk ((AX w4 ⟨b,0,none⟩ (Ac (ba (r'.dropWhile spB))) (b+1) (by show b+1≠b;omega)).trans ((b4.block (b+1) (An.1 H73.out).1).trans H73.out));clear b4 hL4 hTL g0 g1 g2 hdc;go_wp2_with fail
       go_roundg k1
       case measure=>omega
       case rel=>exact⟨r'.dropWhile spB,l ++ [v],HL5,H75,HB5,HRn,⟨by omega⟩,⟨by omega⟩,⟨zay⟩⟩
    ·have c2:wr.cell? ⟨b+1,2,none⟩=some (.func (.func 47) #[.pointer (some ⟨b,0,none⟩)] #[]):=by rw [qb1 H7i.out];rfl
     have hw:=W2.out _ HLi.out hB2 hTw;have hF:qh3 (way2 (c :: t) :: (qe8 c t (qe3 l)).drop 3)=o:=HF.out;generalize way2 (c :: t)=q at hw hF
     rcases q with _ | _ | ⟨v,r'⟩
     ·rw [qq3]at hF;have HF2:=Aside0.mk hF;have hw2:Calls Aj 47 #[.pointer (some ⟨b,0,none⟩)] wr fun e w'=>e= .returned (Ae false)∧Fr b B wr w'∧LB b B (ba (c :: t)) l false w':=hw;clear hF hw hTw hB2;obtain⟨k2,rfl⟩:∃ k2,gk=k2+1:=⟨gk - 1,za1⟩;go_wp2_with fail
      refine hw2.mono ?_;rintro e w3 ⟨rfl,f3,h3⟩;have HB3:=Aside0.mk (HBi.out.trans (f3.1.mono hwb));have H73:=Aside0.mk ((f3.2 (b+1) (by omega) (by omega)).trans H7i.out);have HL3:=Aside0.mk h3;clear f3 h3 hw2;go_wp2_with fail
      go_roundg k2
      case measure=>omega
      case rel=>exact⟨3,rfl,⟨za1⟩,HL3,H73,HB3,HF2,⟨by omega⟩⟩
     ·obtain rfl:none=o:=hF;have hw2:Calls Aj 47 #[.pointer (some ⟨b,0,none⟩)] wr fun e w'=>e= .returned (Ae true)∧Fr b B wr w'∧LB b B (ba (c :: t)) l true w':=hw;have hR2:(([],30):List Wd × Int)=R:=HRo.out;subst hR2;clear hw hTw hB2;go_wp2_with fail
      refine hw2.mono ?_;rintro e w3 ⟨rfl,f3,h3⟩;have HB3:=Aside0.mk (HBi.out.trans (f3.1.mono hwb));have g2:w3.cell? ⟨b,2,none⟩=some (Ae true):=by obtain⟨v,h5,_⟩:=h3;rw [qb1 h5];rfl
      clear f3 h3 hw2;go_wp2_with fail
      try rw [AV]
      go_ret2;exact qk2 HB3.out
     ·obtain rfl:some (v,r')=o:=hF;have hw2:Calls Aj 47 #[.pointer (some ⟨b,0,none⟩)] wr fun e w'=>e= .returned (Ae true)∧Fr b B wr w'∧LB b B (ba r') (l ++ [v]) false w':=hw;have hless:=HLess.out v r' rfl;have hRo:(if 120<l.length+1 then(([],3):List Wd × Int)else qo8 k1 (r'.dropWhile spB) (l ++ [v]))=R:=HRo.out;clear hw hTw hB2;by_cases h120:120<l.length+1
      ·rw [if_pos h120]at hRo;subst hRo;go_wp2_with fail
       refine hw2.mono ?_;rintro e w3 ⟨rfl,f3,h3⟩;have HB3:=Aside0.mk (HBi.out.trans (f3.1.mono hwb));obtain⟨v3,h5,h6⟩:=h3;rw [Ar]at h6;obtain⟨g3,cap3,rfl⟩:=qj2 h6;have g2:w3.cell? ⟨b,2,none⟩=some (Ae false):=by rw [qb1 h5];rfl
       have g1:w3.cell? ⟨b,1,none⟩=some (Ad (some ⟨g3,0,none⟩) (l.length+1) cap3):=by rw [qb1 h5];rfl
       have hdc:decide ((120:Int)<(l.length:Int)+1)=true:=by simp;omega
       clear f3 h5 h6 hw2;go_wp2_with fail
       try rw [AV]
       go_ret2;exact qk2 HB3.out
      ·rw [if_neg h120]at hRo;have HRn:=Aside0.mk hRo;have hdl:=qy13 r';have hls:=HLs.out;clear hRo;go_wp2_with fail
       refine hw2.mono ?_;rintro e w3 ⟨rfl,f3,h3⟩;have HB3:=Aside0.mk (HBi.out.trans (f3.1.mono hwb));have H73:=Aside0.mk ((f3.2 (b+1) (by omega) (by omega)).trans H7i.out);have HL3:=Aside0.mk h3;obtain⟨v3,h5,h6⟩:=h3;rw [Ar]at h6;obtain⟨g3,cap3,rfl⟩:=qj2 h6;have g2:w3.cell? ⟨b,2,none⟩=some (Ae false):=by rw [qb1 h5];rfl
       have g1:w3.cell? ⟨b,1,none⟩=some (Ad (some ⟨g3,0,none⟩) (l.length+1) cap3):=by rw [qb1 h5];rfl
       have g0:w3.cell? ⟨b,0,none⟩=some (Ac (ba r')):=by rw [qb1 h5];rfl
       have hdc:decide ((120:Int)<(l.length:Int)+1)=false:=by simp;omega
       have hTL:=qn3 (ba r') w3;rw [qe1]at hTL;clear f3 h5 h6 hw2;go_wp2_with fail
       refine hTL.mono ?_;rintro e w4 ⟨rfl,b4⟩;have hL4:=HL3.out.below b4;have HL5:=Aside0.mk (hL4.put_s (s':=ba (r'.dropWhile spB)) hbB);have z0:w4.cell? ⟨b,0,none⟩=some (Ac (ba r')):=by obtain⟨v,h5,_⟩:=hL4;rw [qb1 h5];rfl
       have zf:w4.frozen? ⟨b,0,none⟩=false:=by obtain⟨v,h5,_⟩:=hL4;exact Bd h5 0
       have HB5:=Aside0.mk ((chain HB3.out (Ag _) b4).setCell (p:=⟨b,0,none⟩) hwb (Ac (ba (r'.dropWhile spB))));have H75:=Aside0.mk ((AX w4 ⟨b,0,none⟩ (Ac (ba (r'.dropWhile spB))) (b+1) (by show b+1≠b;omega)).trans ((b4.block (b+1) (An.1 H73.out).1).trans H73.out));clear b4 hL4 hTL g0 g1 g2 hdc;go_wp2_with fail
       go_roundg k1
       case measure=>omega
       case rel=>exact⟨r'.dropWhile spB,l ++ [v],HL5,H75,HB5,HRn,⟨by omega⟩,⟨by omega⟩,⟨zay⟩⟩
    ·have c3:wr.cell? ⟨b+1,3,none⟩=some (.func (.func 48) #[.pointer (some ⟨b,0,none⟩)] #[]):=by rw [qb1 H7i.out];rfl
     have hw:=W3.out _ HLi.out hB2 hTw;have hF:qh3 (way3 c t (qe3 l) :: (qe8 c t (qe3 l)).drop 4)=o:=HF.out;generalize way3 c t (qe3 l)=q at hw hF
     rcases q with _ | _ | ⟨v,r'⟩
     ·rw [qq3]at hF;have HF2:=Aside0.mk hF;have hw2:Calls Aj 48 #[.pointer (some ⟨b,0,none⟩)] wr fun e w'=>e= .returned (Ae false)∧Fr b B wr w'∧LB b B (ba (c :: t)) l false w':=hw;clear hF hw hTw hB2;obtain⟨k2,rfl⟩:∃ k2,gk=k2+1:=⟨gk - 1,za1⟩;go_wp2_with fail
      refine hw2.mono ?_;rintro e w3 ⟨rfl,f3,h3⟩;have HB3:=Aside0.mk (HBi.out.trans (f3.1.mono hwb));have H73:=Aside0.mk ((f3.2 (b+1) (by omega) (by omega)).trans H7i.out);have HL3:=Aside0.mk h3;clear f3 h3 hw2;go_wp2_with fail
      go_roundg k2
      case measure=>omega
      case rel=>exact⟨4,rfl,⟨za1⟩,HL3,H73,HB3,HF2,⟨by omega⟩⟩
     ·obtain rfl:none=o:=hF;have hw2:Calls Aj 48 #[.pointer (some ⟨b,0,none⟩)] wr fun e w'=>e= .returned (Ae true)∧Fr b B wr w'∧LB b B (ba (c :: t)) l true w':=hw;have hR2:(([],30):List Wd × Int)=R:=HRo.out;subst hR2;clear hw hTw hB2;go_wp2_with fail
      refine hw2.mono ?_;rintro e w3 ⟨rfl,f3,h3⟩;have HB3:=Aside0.mk (HBi.out.trans (f3.1.mono hwb));have g2:w3.cell? ⟨b,2,none⟩=some (Ae true):=by obtain⟨v,h5,_⟩:=h3;rw [qb1 h5];rfl
      clear f3 h3 hw2;go_wp2_with fail
      try rw [AV]
      go_ret2;exact qk2 HB3.out
     ·obtain rfl:some (v,r')=o:=hF;have hw2:Calls Aj 48 #[.pointer (some ⟨b,0,none⟩)] wr fun e w'=>e= .returned (Ae true)∧Fr b B wr w'∧LB b B (ba r') (l ++ [v]) false w':=hw;have hless:=HLess.out v r' rfl;have hRo:(if 120<l.length+1 then(([],3):List Wd × Int)else qo8 k1 (r'.dropWhile spB) (l ++ [v]))=R:=HRo.out;clear hw hTw hB2;by_cases h120:120<l.length+1
      ·rw [if_pos h120]at hRo;subst hRo;go_wp2_with fail
       refine hw2.mono ?_;rintro e w3 ⟨rfl,f3,h3⟩;have HB3:=Aside0.mk (HBi.out.trans (f3.1.mono hwb));obtain⟨v3,h5,h6⟩:=h3;rw [Ar]at h6;obtain⟨g3,cap3,rfl⟩:=qj2 h6;have g2:w3.cell? ⟨b,2,none⟩=some (Ae false):=by rw [qb1 h5];rfl
       have g1:w3.cell? ⟨b,1,none⟩=some (Ad (some ⟨g3,0,none⟩) (l.length+1) cap3):=by rw [qb1 h5];rfl
       have hdc:decide ((120:Int)<(l.length:Int)+1)=true:=by simp;omega
       clear f3 h5 h6 hw2;go_wp2_with fail
       try rw [AV]
       go_ret2;exact qk2 HB3.out
      ·rw [if_neg h120]at hRo;have HRn:=Aside0.mk hRo;have hdl:=qy13 r';have hls:=HLs.out;clear hRo;go_wp2_with fail
       refine hw2.mono ?_;rintro e w3 ⟨rfl,f3,h3⟩;have HB3:=Aside0.mk (HBi.out.trans (f3.1.mono hwb));have H73:=Aside0.mk ((f3.2 (b+1) (by omega) (by omega)).trans H7i.out);have HL3:=Aside0.mk h3;obtain⟨v3,h5,h6⟩:=h3;rw [Ar]at h6;obtain⟨g3,cap3,rfl⟩:=qj2 h6;have g2:w3.cell? ⟨b,2,none⟩=some (Ae false):=by rw [qb1 h5];rfl
       have g1:w3.cell? ⟨b,1,none⟩=some (Ad (some ⟨g3,0,none⟩) (l.length+1) cap3):=by rw [qb1 h5];rfl
       have g0:w3.cell? ⟨b,0,none⟩=some (Ac (ba r')):=by rw [qb1 h5];rfl
       have hdc:decide ((120:Int)<(l.length:Int)+1)=false:=by simp;omega
       have hTL:=qn3 (ba r') w3;rw [qe1]at hTL;clear f3 h5 h6 hw2;go_wp2_with fail
       refine hTL.mono ?_;rintro e w4 ⟨rfl,b4⟩;have hL4:=HL3.out.below b4;have HL5:=Aside0.mk (hL4.put_s (s':=ba (r'.dropWhile spB)) hbB);have z0:w4.cell? ⟨b,0,none⟩=some (Ac (ba r')):=by obtain⟨v,h5,_⟩:=hL4;rw [qb1 h5];rfl
       have zf:w4.frozen? ⟨b,0,none⟩=false:=by obtain⟨v,h5,_⟩:=hL4;exact Bd h5 0
       have HB5:=Aside0.mk ((chain HB3.out (Ag _) b4).setCell (p:=⟨b,0,none⟩) hwb (Ac (ba (r'.dropWhile spB))));have H75:=Aside0.mk ((AX w4 ⟨b,0,none⟩ (Ac (ba (r'.dropWhile spB))) (b+1) (by show b+1≠b;omega)).trans ((b4.block (b+1) (An.1 H73.out).1).trans H73.out));clear b4 hL4 hTL g0 g1 g2 hdc;go_wp2_with fail
       go_roundg k1
       case measure=>omega
       case rel=>exact⟨r'.dropWhile spB,l ++ [v],HL5,H75,HB5,HRn,⟨by omega⟩,⟨by omega⟩,⟨zay⟩⟩
    ·have c4:wr.cell? ⟨b+1,4,none⟩=some (.func (.func 49) #[.pointer (some ⟨b,0,none⟩)] #[]):=by rw [qb1 H7i.out];rfl
     have hw:=W4.out _ HLi.out hB2 hTw;have hF:qh3 (qu21 c t :: (qe8 c t (qe3 l)).drop 5)=o:=HF.out;generalize qu21 c t=q at hw hF
     rcases q with _ | _ | ⟨v,r'⟩
     ·rw [qq3]at hF;have HF2:=Aside0.mk hF;have hw2:Calls Aj 49 #[.pointer (some ⟨b,0,none⟩)] wr fun e w'=>e= .returned (Ae false)∧Fr b B wr w'∧LB b B (ba (c :: t)) l false w':=hw;clear hF hw hTw hB2;obtain⟨k2,rfl⟩:∃ k2,gk=k2+1:=⟨gk - 1,za1⟩;go_wp2_with fail
      refine hw2.mono ?_;rintro e w3 ⟨rfl,f3,h3⟩;have HB3:=Aside0.mk (HBi.out.trans (f3.1.mono hwb));have H73:=Aside0.mk ((f3.2 (b+1) (by omega) (by omega)).trans H7i.out);have HL3:=Aside0.mk h3;clear f3 h3 hw2;go_wp2_with fail
      go_roundg k2
      case measure=>omega
      case rel=>exact⟨5,rfl,⟨za1⟩,HL3,H73,HB3,HF2,⟨by omega⟩⟩
     ·obtain rfl:none=o:=hF;have hw2:Calls Aj 49 #[.pointer (some ⟨b,0,none⟩)] wr fun e w'=>e= .returned (Ae true)∧Fr b B wr w'∧LB b B (ba (c :: t)) l true w':=hw;have hR2:(([],30):List Wd × Int)=R:=HRo.out;subst hR2;clear hw hTw hB2;go_wp2_with fail
      refine hw2.mono ?_;rintro e w3 ⟨rfl,f3,h3⟩;have HB3:=Aside0.mk (HBi.out.trans (f3.1.mono hwb));have g2:w3.cell? ⟨b,2,none⟩=some (Ae true):=by obtain⟨v,h5,_⟩:=h3;rw [qb1 h5];rfl
      clear f3 h3 hw2;go_wp2_with fail
      try rw [AV]
      go_ret2;exact qk2 HB3.out
     ·obtain rfl:some (v,r')=o:=hF;have hw2:Calls Aj 49 #[.pointer (some ⟨b,0,none⟩)] wr fun e w'=>e= .returned (Ae true)∧Fr b B wr w'∧LB b B (ba r') (l ++ [v]) false w':=hw;have hless:=HLess.out v r' rfl;have hRo:(if 120<l.length+1 then(([],3):List Wd × Int)else qo8 k1 (r'.dropWhile spB) (l ++ [v]))=R:=HRo.out;clear hw hTw hB2;by_cases h120:120<l.length+1
      ·rw [if_pos h120]at hRo;subst hRo;go_wp2_with fail
       refine hw2.mono ?_;rintro e w3 ⟨rfl,f3,h3⟩;have HB3:=Aside0.mk (HBi.out.trans (f3.1.mono hwb));obtain⟨v3,h5,h6⟩:=h3;rw [Ar]at h6;obtain⟨g3,cap3,rfl⟩:=qj2 h6;have g2:w3.cell? ⟨b,2,none⟩=some (Ae false):=by rw [qb1 h5];rfl
       have g1:w3.cell? ⟨b,1,none⟩=some (Ad (some ⟨g3,0,none⟩) (l.length+1) cap3):=by rw [qb1 h5];rfl
       have hdc:decide ((120:Int)<(l.length:Int)+1)=true:=by simp;omega
       clear f3 h5 h6 hw2;go_wp2_with fail
       try rw [AV]
       go_ret2;exact qk2 HB3.out
      ·rw [if_neg h120]at hRo;have HRn:=Aside0.mk hRo;have hdl:=qy13 r';have hls:=HLs.out;clear hRo;go_wp2_with fail
       refine hw2.mono ?_;rintro e w3 ⟨rfl,f3,h3⟩;have HB3:=Aside0.mk (HBi.out.trans (f3.1.mono hwb));have H73:=Aside0.mk ((f3.2 (b+1) (by omega) (by omega)).trans H7i.out);have HL3:=Aside0.mk h3;obtain⟨v3,h5,h6⟩:=h3;rw [Ar]at h6;obtain⟨g3,cap3,rfl⟩:=qj2 h6;have g2:w3.cell? ⟨b,2,none⟩=some (Ae false):=by rw [qb1 h5];rfl
       have g1:w3.cell? ⟨b,1,none⟩=some (Ad (some ⟨g3,0,none⟩) (l.length+1) cap3):=by rw [qb1 h5];rfl
       have g0:w3.cell? ⟨b,0,none⟩=some (Ac (ba r')):=by rw [qb1 h5];rfl
       have hdc:decide ((120:Int)<(l.length:Int)+1)=false:=by simp;omega
       have hTL:=qn3 (ba r') w3;rw [qe1]at hTL;clear f3 h5 h6 hw2;go_wp2_with fail
       refine hTL.mono ?_;rintro e w4 ⟨rfl,b4⟩;have hL4:=HL3.out.below b4;have HL5:=Aside0.mk (hL4.put_s (s':=ba (r'.dropWhile spB)) hbB);have z0:w4.cell? ⟨b,0,none⟩=some (Ac (ba r')):=by obtain⟨v,h5,_⟩:=hL4;rw [qb1 h5];rfl
       have zf:w4.frozen? ⟨b,0,none⟩=false:=by obtain⟨v,h5,_⟩:=hL4;exact Bd h5 0
       have HB5:=Aside0.mk ((chain HB3.out (Ag _) b4).setCell (p:=⟨b,0,none⟩) hwb (Ac (ba (r'.dropWhile spB))));have H75:=Aside0.mk ((AX w4 ⟨b,0,none⟩ (Ac (ba (r'.dropWhile spB))) (b+1) (by show b+1≠b;omega)).trans ((b4.block (b+1) (An.1 H73.out).1).trans H73.out));clear b4 hL4 hTL g0 g1 g2 hdc;go_wp2_with fail
       go_roundg k1
       case measure=>omega
       case rel=>exact⟨r'.dropWhile spB,l ++ [v],HL5,H75,HB5,HRn,⟨by omega⟩,⟨by omega⟩,⟨zay⟩⟩
    ·have c5:wr.cell? ⟨b+1,5,none⟩=some (.func (.func 50) #[.pointer (some ⟨b,0,none⟩)] #[]):=by rw [qb1 H7i.out];rfl
     have hw:=W5.out _ HLi.out hB2 hTw;have hF:qh3 (qn21 (c :: t) (qe3 l) :: (qe8 c t (qe3 l)).drop 6)=o:=HF.out;generalize qn21 (c :: t) (qe3 l)=q at hw hF
     rcases q with _ | _ | ⟨v,r'⟩
     ·rw [qq3]at hF;have HF2:=Aside0.mk hF;have hw2:Calls Aj 50 #[.pointer (some ⟨b,0,none⟩)] wr fun e w'=>e= .returned (Ae false)∧Fr b B wr w'∧LB b B (ba (c :: t)) l false w':=hw;clear hF hw hTw hB2;obtain⟨k2,rfl⟩:∃ k2,gk=k2+1:=⟨gk - 1,za1⟩;go_wp2_with fail
      refine hw2.mono ?_;rintro e w3 ⟨rfl,f3,h3⟩;have HB3:=Aside0.mk (HBi.out.trans (f3.1.mono hwb));have H73:=Aside0.mk ((f3.2 (b+1) (by omega) (by omega)).trans H7i.out);have HL3:=Aside0.mk h3;clear f3 h3 hw2;go_wp2_with fail
      go_roundg k2
      case measure=>omega
      case rel=>exact⟨6,rfl,⟨za1⟩,HL3,H73,HB3,HF2,⟨by omega⟩⟩
     ·obtain rfl:none=o:=hF;have hw2:Calls Aj 50 #[.pointer (some ⟨b,0,none⟩)] wr fun e w'=>e= .returned (Ae true)∧Fr b B wr w'∧LB b B (ba (c :: t)) l true w':=hw;have hR2:(([],30):List Wd × Int)=R:=HRo.out;subst hR2;clear hw hTw hB2;go_wp2_with fail
      refine hw2.mono ?_;rintro e w3 ⟨rfl,f3,h3⟩;have HB3:=Aside0.mk (HBi.out.trans (f3.1.mono hwb));have g2:w3.cell? ⟨b,2,none⟩=some (Ae true):=by obtain⟨v,h5,_⟩:=h3;rw [qb1 h5];rfl
      clear f3 h3 hw2;go_wp2_with fail
      try rw [AV]
      go_ret2;exact qk2 HB3.out
     ·obtain rfl:some (v,r')=o:=hF;have hw2:Calls Aj 50 #[.pointer (some ⟨b,0,none⟩)] wr fun e w'=>e= .returned (Ae true)∧Fr b B wr w'∧LB b B (ba r') (l ++ [v]) false w':=hw;have hless:=HLess.out v r' rfl;have hRo:(if 120<l.length+1 then(([],3):List Wd × Int)else qo8 k1 (r'.dropWhile spB) (l ++ [v]))=R:=HRo.out;clear hw hTw hB2;by_cases h120:120<l.length+1
      ·rw [if_pos h120]at hRo;subst hRo;go_wp2_with fail
       refine hw2.mono ?_;rintro e w3 ⟨rfl,f3,h3⟩;have HB3:=Aside0.mk (HBi.out.trans (f3.1.mono hwb));obtain⟨v3,h5,h6⟩:=h3;rw [Ar]at h6;obtain⟨g3,cap3,rfl⟩:=qj2 h6;have g2:w3.cell? ⟨b,2,none⟩=some (Ae false):=by rw [qb1 h5];rfl
       have g1:w3.cell? ⟨b,1,none⟩=some (Ad (some ⟨g3,0,none⟩) (l.length+1) cap3):=by rw [qb1 h5];rfl
       have hdc:decide ((120:Int)<(l.length:Int)+1)=true:=by simp;omega
       clear f3 h5 h6 hw2;go_wp2_with fail
       try rw [AV]
       go_ret2;exact qk2 HB3.out
      ·rw [if_neg h120]at hRo;have HRn:=Aside0.mk hRo;have hdl:=qy13 r';have hls:=HLs.out;clear hRo;go_wp2_with fail
       refine hw2.mono ?_;rintro e w3 ⟨rfl,f3,h3⟩;have HB3:=Aside0.mk (HBi.out.trans (f3.1.mono hwb));have H73:=Aside0.mk ((f3.2 (b+1) (by omega) (by omega)).trans H7i.out);have HL3:=Aside0.mk h3;obtain⟨v3,h5,h6⟩:=h3;rw [Ar]at h6;obtain⟨g3,cap3,rfl⟩:=qj2 h6;have g2:w3.cell? ⟨b,2,none⟩=some (Ae false):=by rw [qb1 h5];rfl
       have g1:w3.cell? ⟨b,1,none⟩=some (Ad (some ⟨g3,0,none⟩) (l.length+1) cap3):=by rw [qb1 h5];rfl
       have g0:w3.cell? ⟨b,0,none⟩=some (Ac (ba r')):=by rw [qb1 h5];rfl
       have hdc:decide ((120:Int)<(l.length:Int)+1)=false:=by simp;omega
       have hTL:=qn3 (ba r') w3;rw [qe1]at hTL;clear f3 h5 h6 hw2;go_wp2_with fail
       refine hTL.mono ?_;rintro e w4 ⟨rfl,b4⟩;have hL4:=HL3.out.below b4;have HL5:=Aside0.mk (hL4.put_s (s':=ba (r'.dropWhile spB)) hbB);have z0:w4.cell? ⟨b,0,none⟩=some (Ac (ba r')):=by obtain⟨v,h5,_⟩:=hL4;rw [qb1 h5];rfl
       have zf:w4.frozen? ⟨b,0,none⟩=false:=by obtain⟨v,h5,_⟩:=hL4;exact Bd h5 0
       have HB5:=Aside0.mk ((chain HB3.out (Ag _) b4).setCell (p:=⟨b,0,none⟩) hwb (Ac (ba (r'.dropWhile spB))));have H75:=Aside0.mk ((AX w4 ⟨b,0,none⟩ (Ac (ba (r'.dropWhile spB))) (b+1) (by show b+1≠b;omega)).trans ((b4.block (b+1) (An.1 H73.out).1).trans H73.out));clear b4 hL4 hTL g0 g1 g2 hdc;go_wp2_with fail
       go_roundg k1
       case measure=>omega
       case rel=>exact⟨r'.dropWhile spB,l ++ [v],HL5,H75,HB5,HRn,⟨by omega⟩,⟨by omega⟩,⟨zay⟩⟩
    ·have c6:wr.cell? ⟨b+1,6,none⟩=some (.func (.func 51) #[.pointer (some ⟨b,0,none⟩)] #[]):=by rw [qb1 H7i.out];rfl
     have hw:=W6.out _ HLi.out hB2 hTw;have hF:qh3 ((some none:Option (Option (Wd × List UInt8))) :: [])=o:=HF.out;obtain rfl:none=o:=hF;have hw2:Calls Aj 51 #[.pointer (some ⟨b,0,none⟩)] wr fun e w'=>e= .returned (Ae true)∧Fr b B wr w'∧LB b B (ba (c :: t)) l true w':=hw;have hR2:(([],30):List Wd × Int)=R:=HRo.out;subst hR2;clear hw hTw hB2;go_wp2_with fail
     refine hw2.mono ?_;rintro e w3 ⟨rfl,f3,h3⟩;have HB3:=Aside0.mk (HBi.out.trans (f3.1.mono hwb));have g2:w3.cell? ⟨b,2,none⟩=some (Ae true):=by obtain⟨v,h5,_⟩:=h3;rw [qb1 h5];rfl
     clear f3 h3 hw2;go_wp2_with fail
     try rw [AV]
     go_ret2;exact qk2 HB3.out
theorem lex_call (s:ByteArray) (w:World) (hs:s.size≤9223372036854775807) (hT:qz5 w):Calls Aj 24 #[Ac s] w (Got w (qi10 s.data.toList)):=by
 by_cases h:s.size≤400
 ·cases ht:qc10 s with
  | true=>exact qv23 s w h hT ht
  | false=>exact qx23 s w h hT ht
 ·exact qw23 s w (by omega)
end Go.Proofs.YtocdckniokhbbaaGreatDoor.LexM
