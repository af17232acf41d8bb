import Derived.Test.YtocdckniokhbbaaGreatDoorZkLexH
set_option linter.unusedVariables false
set_option linter.unusedSimpArgs false
open Option renaming some→Ay
open List renaming getElem?_eq_getElem→AG
open Go.Value renaming int→Aa,string→Ac,bool→Ae
open Go.IntKind renaming i64→Ab
open Go.Proofs.Tryz renaming prog→Aj
open Nat renaming le_of_lt→Ah,le_refl→Ag
open Bool renaming false_eq_true→AS
open Go.ByteArray renaming toList_eq→Aq
set_option maxHeartbeats 16000000
set_option maxRecDepth 100000
namespace Go.Proofs.YtocdckniokhbbaaGreatDoor.LexI
open Go.RowKit Go.Shelf YtocdckniokhbbaaGreatDoorW.PrintWords YtocdckniokhbbaaGreatDoorW.PrintLast YtocdckniokhbbaaGreatDoorW.PrintMore CharA CharB CharD CharF SpanA FigA FigC FigD FigG FigI LexA LexF LexG LexH
theorem qd11 (p:List UInt8) (rest:List (List UInt8)) (s:List UInt8):qq1 (p :: rest) s=if p.isPrefixOf s=true then some p else qq1 rest s:=by
  unfold qq1;rw [List.find?_cons]
  cases p.isPrefixOf s<;>rfl
theorem qi9 {p:List UInt8} {rest:List (List UInt8)} {s:List UInt8} (h:qq1 (p :: rest) s=none):p.isPrefixOf s=false∧qq1 rest s=none:=by
  rw [qd11]at h
  cases hp:p.isPrefixOf s with
  | true=>rw [hp]at h;cases h
  | false=>rw [hp]at h;exact⟨rfl,h⟩
theorem qr12 {p:List UInt8} {rest:List (List UInt8)} {s m:List UInt8} (h:qq1 (p :: rest) s=some m):(p.isPrefixOf s=true∧m=p)∨(p.isPrefixOf s=false∧qq1 rest s=some m):=by
  rw [qd11]at h
  cases hp:p.isPrefixOf s with
  | true=>rw [hp]at h;exact .inl ⟨rfl,(Ay.inj h).symm⟩
  | false=>rw [hp]at h;exact .inr ⟨rfl,h⟩
theorem qn9 (l:List (List UInt8)) (k:Nat) (h:k<l.length):l.drop k=l.getD k [] :: l.drop (k+1):=by
  rw [List.drop_eq_getElem_cons h];simp [List.getD,AG h]
theorem ix9 (k:Nat) (hk:k<9) (w:World):(Instr.index 122 (.agg #[Ac ⟨#[46,46]⟩,Ac ⟨#[58,58]⟩,Ac ⟨#[40]⟩,Ac ⟨#[41]⟩,Ac ⟨#[91]⟩,Ac ⟨#[93]⟩,Ac ⟨#[46]⟩,Ac ⟨#[64]⟩,Ac ⟨#[44]⟩]) (Aa Ab (k:Int))).run Aj w= .ok (Ac (ba (marksL.getD k []))) w:=by
  rcases(show k=0∨k=1∨k=2∨k=3∨k=4∨k=5∨k=6∨k=7∨k=8 by omega)with rfl | rfl | rfl | rfl | rfl | rfl | rfl | rfl | rfl
  all_goals kernel_rfl
theorem ix11 (k:Nat) (hk:k<11) (w:World):(Instr.index 125 (.agg #[Ac ⟨#[47,47]⟩,Ac ⟨#[33,61]⟩,Ac ⟨#[60,61]⟩,Ac ⟨#[62,61]⟩,Ac ⟨#[47]⟩,Ac ⟨#[124]⟩,Ac ⟨#[43]⟩,Ac ⟨#[45]⟩,Ac ⟨#[61]⟩,Ac ⟨#[60]⟩,Ac ⟨#[62]⟩]) (Aa Ab (k:Int))).run Aj w= .ok (Ac (ba (opsL.getD k []))) w:=by
  rcases(show k=0∨k=1∨k=2∨k=3∨k=4∨k=5∨k=6∨k=7∨k=8∨k=9∨k=10 by omega)with rfl | rfl | rfl | rfl | rfl | rfl | rfl | rfl | rfl | rfl | rfl
  all_goals kernel_rfl
theorem qo23 (b B:Nat) (s:ByteArray) (m:List UInt8) (l:List Wd) (w:World) (h:LB b B s l false w) (hb:b<B) (hB:B≤w.heap.size) (hl:l.length≤1000) (hm:qq1 marksL s.data.toList=some m) :
    Calls Aj 47 #[qr1 b] w fun e w'=>e= .returned (Ae true)∧LB b B (ba (s.data.toList.drop m.length)) (l ++ [(1,m,0,0)]) false w'∧Fr b B w w':=by
  have HS:Aside0 (∀ t r,Calls Aj 88 #[.pointer (some ⟨b,0,none⟩),Aa Ab 1,Ac t,Ac r] w fun e w'=>e= .returned (Ae true)∧LB b B r (l ++ [(1,t.data.toList,0,0)]) false w'∧Fr b B w w'):=⟨fun t r=>qq5 b B s l 1 t r w h hb hB hl⟩;obtain⟨v,h1,_⟩:=h;have c0:w.cell? ⟨b,0,none⟩=some (Ac s):=by rw [qb1 h1];rfl
  clear h1;have HmarksL:Aside0 (0≤9∧qq1 (marksL.drop 0) s.data.toList=some m):=⟨by omega,hm⟩;clear hm hl;unfold qr1;go_enter Tryz.func47,Tryz.ntmps47;go_wp2_with fail
  go_loop [12] (fun i=>∃ k:Nat,i= Aa Ab (k:Int)∧Aside0 (k≤9∧qq1 (marksL.drop k) s.data.toList=some m)) (fun i=>9 - (intOf i).toNat)
  case atStart=>exact⟨0,rfl,HmarksL⟩
  case round=>
    obtain⟨k,rfl,H⟩:=hrel;have hk:=H.out.1;have hF:=H.out.2;clear H;by_cases hlt:k<9
    · rw [qn9 marksL k hlt]at hF;have hx:=ix9 k hlt w
      rcases qr12 hF with ⟨hp,hm⟩ | ⟨hp,hn⟩
      · rw [← hm]at hp hx;have hc:=qb19 s (ba m) (ba (s.data.toList.drop m.length)) hp rfl w;have hS:=HS.out (ba m) (ba (s.data.toList.drop m.length));rw [qe1]at hS;clear hF hp HS hm;go_wp2_with fail
        refine hc.mono ?_;rintro e w1 ⟨rfl,rfl⟩;go_wp2_with fail
        refine hS.mono ?_;rintro e w2 ⟨rfl,h2,f2⟩;go_wp2_with fail
        go_ret;exact⟨rfl,h2,f2⟩
      · have HN:=Aside0.mk hn;clear hF hn;have hc:=qc13 s (ba (marksL.getD k [])) hp w;clear hp;generalize ba (marksL.getD k [])=p at *;go_wp2_with fail
        refine hc.mono ?_;rintro e w1 ⟨rfl,rfl⟩;go_wp2_with fail
        go_round
        case rel=>exact⟨k+1,by go_num,⟨by omega,HN.out⟩⟩
        case measure=>simp [intOf];omega
    · obtain rfl:k=9:=by omega
      cases hF
theorem qn23 (b B:Nat) (s:ByteArray) (m:List UInt8) (l:List Wd) (w:World) (h:LB b B s l false w) (hb:b<B) (hB:B≤w.heap.size) (hl:l.length≤1000) (h0:qq1 marksL s.data.toList=none) (hm:qq1 opsL s.data.toList=some m) :
    Calls Aj 47 #[qr1 b] w fun e w'=>e= .returned (Ae true)∧LB b B (ba (s.data.toList.drop m.length)) (l ++ [(5,m,0,0)]) false w'∧Fr b B w w':=by
  have HS:Aside0 (∀ t r,Calls Aj 88 #[.pointer (some ⟨b,0,none⟩),Aa Ab 5,Ac t,Ac r] w fun e w'=>e= .returned (Ae true)∧LB b B r (l ++ [(5,t.data.toList,0,0)]) false w'∧Fr b B w w'):=⟨fun t r=>qq5 b B s l 5 t r w h hb hB hl⟩;obtain⟨v,h1,_⟩:=h;have c0:w.cell? ⟨b,0,none⟩=some (Ac s):=by rw [qb1 h1];rfl
  clear h1;have HmarksL:Aside0 (0≤9∧qq1 (marksL.drop 0) s.data.toList=none):=⟨by omega,h0⟩;have HopsL:Aside0 (0≤11∧qq1 (opsL.drop 0) s.data.toList=some m):=⟨by omega,hm⟩;clear hm h0 hl;unfold qr1;go_enter Tryz.func47,Tryz.ntmps47;go_wp2_with fail
  go_loop [12] (fun i=>∃ k:Nat,i= Aa Ab (k:Int)∧Aside0 (k≤9∧qq1 (marksL.drop k) s.data.toList=none)) (fun i=>9 - (intOf i).toNat)
  case atStart=>exact⟨0,rfl,HmarksL⟩
  case round=>
    obtain⟨k,rfl,H⟩:=hrel;have hk:=H.out.1;have hF:=H.out.2;clear H;by_cases hlt:k<9
    · rw [qn9 marksL k hlt]at hF;have hx:=ix9 k hlt w;obtain⟨hp,hn⟩:=qi9 hF;have HN:=Aside0.mk hn;clear hF hn;have hc:=qc13 s (ba (marksL.getD k [])) hp w;clear hp;generalize ba (marksL.getD k [])=p at *;go_wp2_with fail
      refine hc.mono ?_;rintro e w1 ⟨rfl,rfl⟩;go_wp2_with fail
      go_round
      case rel=>exact⟨k+1,by go_num,⟨by omega,HN.out⟩⟩
      case measure=>simp [intOf];omega
    · obtain rfl:k=9:=by omega
      clear hF hlt;go_wp2_with fail
      go_loop [31] (fun i=>∃ k:Nat,i= Aa Ab (k:Int)∧Aside0 (k≤11∧qq1 (opsL.drop k) s.data.toList=some m)) (fun i=>11 - (intOf i).toNat)
      case atStart=>exact⟨0,rfl,HopsL⟩
      case round=>
        obtain⟨k,rfl,H⟩:=hrel;have hk:=H.out.1;have hF:=H.out.2;clear H;by_cases hlt:k<11
        · rw [qn9 opsL k hlt]at hF;have hx:=ix11 k hlt w
          rcases qr12 hF with ⟨hp,hm⟩ | ⟨hp,hn⟩
          · rw [← hm]at hp hx;have hc:=qb19 s (ba m) (ba (s.data.toList.drop m.length)) hp rfl w;have hS:=HS.out (ba m) (ba (s.data.toList.drop m.length));rw [qe1]at hS;clear hF hp HS hm;go_wp2_with fail
            refine hc.mono ?_;rintro e w1 ⟨rfl,rfl⟩;go_wp2_with fail
            refine hS.mono ?_;rintro e w2 ⟨rfl,h2,f2⟩;go_wp2_with fail
            go_ret;exact⟨rfl,h2,f2⟩
          · have HN:=Aside0.mk hn;clear hF hn;have hc:=qc13 s (ba (opsL.getD k [])) hp w;clear hp;generalize ba (opsL.getD k [])=p at *;go_wp2_with fail
            refine hc.mono ?_;rintro e w1 ⟨rfl,rfl⟩;go_wp2_with fail
            go_round
            case rel=>exact⟨k+1,by go_num,⟨by omega,HN.out⟩⟩
            case measure=>simp [intOf];omega
        · obtain rfl:k=11:=by omega
          cases hF
theorem mark_no (b B:Nat) (s:ByteArray) (l:List Wd) (w:World) (h:LB b B s l false w) (h0:qq1 marksL s.data.toList=none) (hm:qq1 opsL s.data.toList=none) :
    Calls Aj 47 #[qr1 b] w fun e w'=>e= .returned (Ae false)∧w=w':=by
  obtain⟨v,h1,_⟩:=h;have c0:w.cell? ⟨b,0,none⟩=some (Ac s):=by rw [qb1 h1];rfl
  clear h1;have HmarksL:Aside0 (0≤9∧qq1 (marksL.drop 0) s.data.toList=none):=⟨by omega,h0⟩;have HopsL:Aside0 (0≤11∧qq1 (opsL.drop 0) s.data.toList=none):=⟨by omega,hm⟩;clear hm h0;unfold qr1;go_enter Tryz.func47,Tryz.ntmps47;go_wp2_with fail
  go_loop [12] (fun i=>∃ k:Nat,i= Aa Ab (k:Int)∧Aside0 (k≤9∧qq1 (marksL.drop k) s.data.toList=none)) (fun i=>9 - (intOf i).toNat)
  case atStart=>exact⟨0,rfl,HmarksL⟩
  case round=>
    obtain⟨k,rfl,H⟩:=hrel;have hk:=H.out.1;have hF:=H.out.2;clear H;by_cases hlt:k<9
    · rw [qn9 marksL k hlt]at hF;have hx:=ix9 k hlt w;obtain⟨hp,hn⟩:=qi9 hF;have HN:=Aside0.mk hn;clear hF hn;have hc:=qc13 s (ba (marksL.getD k [])) hp w;clear hp;generalize ba (marksL.getD k [])=p at *;go_wp2_with fail
      refine hc.mono ?_;rintro e w1 ⟨rfl,rfl⟩;go_wp2_with fail
      go_round
      case rel=>exact⟨k+1,by go_num,⟨by omega,HN.out⟩⟩
      case measure=>simp [intOf];omega
    · obtain rfl:k=9:=by omega
      clear hF hlt;go_wp2_with fail
      go_loop [31] (fun i=>∃ k:Nat,i= Aa Ab (k:Int)∧Aside0 (k≤11∧qq1 (opsL.drop k) s.data.toList=none)) (fun i=>11 - (intOf i).toNat)
      case atStart=>exact⟨0,rfl,HopsL⟩
      case round=>
        obtain⟨k,rfl,H⟩:=hrel;have hk:=H.out.1;have hF:=H.out.2;clear H;by_cases hlt:k<11
        · rw [qn9 opsL k hlt]at hF;have hx:=ix11 k hlt w;obtain⟨hp,hn⟩:=qi9 hF;have HN:=Aside0.mk hn;clear hF hn;have hc:=qc13 s (ba (opsL.getD k [])) hp w;clear hp;generalize ba (opsL.getD k [])=p at *;go_wp2_with fail
          refine hc.mono ?_;rintro e w1 ⟨rfl,rfl⟩;go_wp2_with fail
          go_round
          case rel=>exact⟨k+1,by go_num,⟨by omega,HN.out⟩⟩
          case measure=>simp [intOf];omega
        · obtain rfl:k=11:=by omega
          clear hF hlt;go_wp2_with fail
          go_ret;exact⟨rfl,rfl⟩
end Go.Proofs.YtocdckniokhbbaaGreatDoor.LexI
namespace Go.Proofs.YtocdckniokhbbaaGreatDoor.LexJ
open Go.RowKit Go.Shelf YtocdckniokhbbaaGreatDoorW.PrintWords YtocdckniokhbbaaGreatDoorW.PrintLast YtocdckniokhbbaaGreatDoorW.PrintMore CharA CharB CharD CharF SpanA FigA FigC FigD FigG FigI LexA LexF LexG LexH
theorem qu13 (b B:Nat) (s t:ByteArray) (c:UInt8) (l:List Wd) (w:World) (h:LB b B s l false w) (hd:Head s c t) (hc:¬ c=36) :
    Calls Aj 49 #[qr1 b] w fun e w'=>e= .returned (Ae false)∧w=w':=by
  obtain⟨v,h1,_⟩:=h;have c0:w.cell? ⟨b,0,none⟩=some (Ac s):=by rw [qb1 h1];rfl
  have hp:=hd.pos;have q1:(((s[0]'hp).toNat:Int) !=36)=true:=by rw [hd.at0,bne_iff_ne];intro q;exact hc ((u8i c 36 (by omega)).1 q)
  clear hd h1 hc;unfold qr1;go_enter Tryz.func49,Tryz.ntmps49;go_wp2_with fail
  go_ret;exact⟨rfl,rfl⟩
theorem qh12 (b B:Nat) (s t:ByteArray) (c:UInt8) (l:List Wd) (w:World) (h:LB b B s l false w) (hb:b<B) (hB:B≤w.heap.size) (hl:l.length≤1000) (hs:s.size≤1000000000) (hT:qz5 w) (hd:Head s c t) (hc:c=36) :
    Calls Aj 49 #[qr1 b] w fun e w'=>e= .returned (Ae true)∧(if qf4 (ba (qi4 t.data.toList))=true then LB b B (ba (t.data.toList.drop (qi4 t.data.toList).length)) (l ++ [(10,qi4 t.data.toList,0,0)]) false w' else LB b B s l true w')∧Fr b B w w':=by
  have hsz:=hd.size;have hr:=qo11 t w (by omega) hT;have hn:∀ W,Below w.heap.size w W→_:=fun W hW=>qu5 (ba (qi4 t.data.toList)) W (qj1 hT hW);have hf:∀ W,Below w.heap.size w W→_:=fun W hW=>qo3 b B s l W (h.below hW) hb;have hy:∀ r W,Below w.heap.size w W→_:=fun r W hW=>qq5 b B s l 10 (ba (qi4 t.data.toList)) r W (h.below hW) hb (Nat.le_trans hB hW.size) hl;rw [qe1]at hy;have HF2:Aside0 (∀ W,Below w.heap.size w W→Fr b B w W):=⟨fun W hW=>Fr.of_below hW hB (Ah hb)⟩;have c0:w.cell? ⟨b,0,none⟩=some (Ac s):=by obtain⟨v,h1,_⟩:=h;rw [qb1 h1];rfl
  have hp:=hd.pos;have x2:=hd.rest;have x3:(1:Int)≤(s.size:Int):=by omega
  have q1:(((s[0]'hp).toNat:Int) !=36)=false:=by rw [hd.at0,hc];rfl
  clear hd h hc hsz hT;generalize qi4 t.data.toList=R at *;generalize ba (t.data.toList.drop R.length)=r at *;have HN:=Aside0.mk hn;have HY:=Aside0.mk (hy r);have HL:=Aside0.mk hf;clear hn hy hf;unfold qr1 at HY HL ⊢
  cases hq:qf4 (ba R)with
  | true=>
    rw [hq]at HN;simp only [if_true];clear hq HL;go_enter Tryz.func49,Tryz.ntmps49;go_wp2_with fail
    refine hr.mono ?_;rintro e w1 ⟨rfl,b1⟩;have hN:=HN.out _ b1;have B1:=Aside0.mk b1;clear b1;go_wp2_with fail
    refine hN.mono ?_;rintro e w2 ⟨rfl,b2⟩;have b3:=chain B1.out (Ag _) b2;have hS:=HY.out _ b3;have F1:=Aside0.mk (HF2.out _ b3);clear b2 b3;go_wp2_with fail
    refine hS.mono ?_;rintro e w3 ⟨rfl,h2,f2⟩;go_wp2_with fail
    go_ret;exact⟨rfl,h2,F1.out.trans f2⟩
  | false=>
    rw [hq]at HN;simp only [AS,if_false];clear hq HY;go_enter Tryz.func49,Tryz.ntmps49;go_wp2_with fail
    refine hr.mono ?_;rintro e w1 ⟨rfl,b1⟩;have hN:=HN.out _ b1;have B1:=Aside0.mk b1;clear b1;go_wp2_with fail
    refine hN.mono ?_;rintro e w2 ⟨rfl,b2⟩;have b3:=chain B1.out (Ag _) b2;have hS:=HL.out _ b3;have F1:=Aside0.mk (HF2.out _ b3);clear b2 b3;go_wp2_with fail
    refine hS.mono ?_;rintro e w3 ⟨rfl,h2,f2⟩;go_wp2_with fail
    go_ret;exact⟨rfl,h2,F1.out.trans f2⟩
theorem four_eq (x:List UInt8):fourL.contains x=(x == [97,110,100] || x == [111,114] || x == [109,111,100] || x == [100,105,118]):=by
  unfold fourL;simp only [List.contains_cons,List.contains_nil,Bool.or_false,Bool.or_assoc]
theorem name_no (b B:Nat) (s:ByteArray) (l:List Wd) (w:World) (h:LB b B s l false w) (hs:s.size≤1000000000) (hT:qz5 w) (hr0:qi4 s.data.toList= []) :
    Calls Aj 50 #[qr1 b] w fun e w'=>e= .returned (Ae false)∧Below w.heap.size w w':=by
  have hr:=qo11 s w hs hT;rw [hr0]at hr;have c0:w.cell? ⟨b,0,none⟩=some (Ac s):=by obtain⟨v,h1,_⟩:=h;rw [qb1 h1];rfl
  have e0:(ba []).toList= []:=by rw [Aq];rfl
  generalize ba (s.data.toList.drop (List.length ([]:List UInt8)))=r at *;generalize ba []=z at *;clear h hT hr0;unfold qr1;go_enter Tryz.func50,Tryz.ntmps50;go_wp2_with fail
  refine hr.mono ?_;rintro e w1 ⟨rfl,b1⟩;go_wp2_with fail
  go_ret;exact⟨rfl,b1⟩
def qw19 (b B:Nat) (s:ByteArray) (l:List Wd) (R r:List UInt8) (w':World):Prop:=
  if qf4 (ba R)=true then(if qe3 l=true then(if fourL.contains R=true then LB b B (ba r) (l ++ [(5,R,0,0)]) false w' else LB b B s l true w')else LB b B (ba r) (l ++ [(qu16 R r,R,0,0)]) false w')else LB b B s l true w'
theorem qi23 (b B:Nat) (s:ByteArray) (l:List Wd) (w:World) (h:LB b B s l false w) (hb:b<B) (hB:B≤w.heap.size) (hl:l.length≤1000) (hs:s.size≤1000000000) (hT:qz5 w) (hr0:qi4 s.data.toList≠ []) :
    Calls Aj 50 #[qr1 b] w fun e w'=>e= .returned (Ae true)∧qw19 b B s l (qi4 s.data.toList) (s.data.toList.drop (qi4 s.data.toList).length) w'∧Fr b B w w':=by
  have hr:=qo11 s w hs hT;have hn:∀ W,Below w.heap.size w W→_:=fun W hW=>qu5 (ba (qi4 s.data.toList)) W (qj1 hT hW);have hf:∀ W,Below w.heap.size w W→_:=fun W hW=>qo3 b B s l W (h.below hW) hb;have he:∀ W,Below w.heap.size w W→_:=fun W hW=>qk13 b B s l W (h.below hW) hl;have hk:=fun W=>qg20 (ba (qi4 s.data.toList)) (ba (s.data.toList.drop (qi4 s.data.toList).length)) W;have hy:∀ k r W,Below w.heap.size w W→_:=fun k r W hW=>qq5 b B s l k (ba (qi4 s.data.toList)) r W (h.below hW) hb (Nat.le_trans hB hW.size) hl;rw [qe1]at hy;rw [qe1,qe1]at hk;have HF2:Aside0 (∀ W,Below w.heap.size w W→Fr b B w W):=⟨fun W hW=>Fr.of_below hW hB (Ah hb)⟩;have c0:w.cell? ⟨b,0,none⟩=some (Ac s):=by obtain⟨v,h1,_⟩:=h;rw [qb1 h1];rfl
  generalize s.data.toList.drop (qi4 s.data.toList).length=r at *;generalize qi4 s.data.toList=R at *;have d0:(ba R).toList.isEmpty=false:=by rw [Aq,qe1];cases R with | nil=>exact absurd rfl hr0 | cons _ _=>rfl
  have eR:(ba R).toList=R:=by rw [Aq,qe1]
  have HN:=Aside0.mk hn;have HY:=Aside0.mk (fun k=>hy k (ba r));have HL:=Aside0.mk hf;have HE:=Aside0.mk he;clear hn hy hf he h hT hr0;unfold qr1 at HY HL HE ⊢;unfold qw19
  cases hq:qf4 (ba R)with
  | false=>
    rw [hq]at HN;simp only [AS,if_false];clear hq HY HE hk eR;generalize ba R=z at *;generalize ba r=y at *;go_enter Tryz.func50,Tryz.ntmps50;go_wp2_with fail
    refine hr.mono ?_;rintro e w1 ⟨rfl,b1⟩;have hN:=HN.out _ b1;have B1:=Aside0.mk b1;clear b1;go_wp2_with fail
    refine hN.mono ?_;rintro e w2 ⟨rfl,b2⟩;have b3:=chain B1.out (Ag _) b2;have hS:=HL.out _ b3;have F1:=Aside0.mk (HF2.out _ b3);clear b2 b3;go_wp2_with fail
    refine hS.mono ?_;rintro e w3 ⟨rfl,h2,f2⟩;go_wp2_with fail
    go_ret;exact⟨rfl,h2,F1.out.trans f2⟩
  | true=>
    rw [hq]at HN;simp only [if_true];clear hq
    cases hE:qe3 l with
    | false=>
      rw [hE]at HE;simp only [AS,if_false];clear hE HL eR;have HK:=Aside0.mk hk;clear hk;generalize ba R=z at *;generalize ba r=y at *;generalize qu16 R r=K at *;go_enter Tryz.func50,Tryz.ntmps50;go_wp2_with fail
      refine hr.mono ?_;rintro e w1 ⟨rfl,b1⟩;have hN:=HN.out _ b1;have B1:=Aside0.mk b1;clear b1;go_wp2_with fail
      refine hN.mono ?_;rintro e w2 ⟨rfl,b2⟩;have b3:=chain B1.out (Ag _) b2;have hS:=HE.out _ b3;have B3:=Aside0.mk b3;clear b2 b3 B1 hN;go_wp2_with fail
      refine hS.mono ?_;rintro e w3 ⟨rfl,b3⟩;have B4:=Aside0.mk (chain B3.out (Ag _) b3);have hK:=HK.out w3;clear b3 B3 hS;go_wp2_with fail
      refine hK.mono ?_;rintro e w4 ⟨rfl,b4⟩;have b5:=chain B4.out (Ag _) b4;have hS:=HY.out K _ b5;have F1:=Aside0.mk (HF2.out _ b5);clear b4 b5 B4 hK;go_wp2_with fail
      refine hS.mono ?_;rintro e w5 ⟨rfl,h2,f2⟩;go_wp2_with fail
      go_ret;exact⟨rfl,h2,F1.out.trans f2⟩
    | true=>
      rw [hE]at HE;simp only [if_true];rw [four_eq,← eR];clear hE hk;obtain⟨q,hq⟩:∃ q,((ba R).toList == [97,110,100] || (ba R).toList == [111,114] || (ba R).toList == [109,111,100] || (ba R).toList == [100,105,118])=q:=⟨_,rfl⟩;rw [hq];have HQ:=Aside0.mk hq;rw [eR];clear hq eR;have HY5:=Aside0.mk (HY.out 5);clear HY;generalize ba R=z at *;generalize ba r=y at *
      cases q
      all_goals
        simp only [AS,if_false,if_true];go_enter Tryz.func50,Tryz.ntmps50;go_wp2_with fail
        refine hr.mono ?_;rintro e w1 ⟨rfl,b1⟩;have hN:=HN.out _ b1;have B1:=Aside0.mk b1;clear b1;go_wp2_with fail
        refine hN.mono ?_;rintro e w2 ⟨rfl,b2⟩;have b3:=chain B1.out (Ag _) b2;have hS:=HE.out _ b3;have B3:=Aside0.mk b3;clear b2 b3 B1 hN;go_wp2_with fail
        refine hS.mono ?_;rintro e w3 ⟨rfl,b3⟩;have b4:=chain B3.out (Ag _) b3;have hY:=HY5.out _ b4;have hL:=HL.out _ b4;have F1:=Aside0.mk (HF2.out _ b4);clear b3 B3 hS b4;go_wp2_with fail
        all_goals
          first
          | (refine hY.mono ?_
             rintro e w5 ⟨rfl,h2,f2⟩;go_wp2_with fail
             go_ret
             first | exact⟨rfl,h2,F1.out.trans f2⟩ | (exfalso;have:=HQ.out;simp_all;done))
          | (refine hL.mono ?_
             rintro e w5 ⟨rfl,h2,f2⟩;go_wp2_with fail
             go_ret
             first | exact⟨rfl,h2,F1.out.trans f2⟩ | (exfalso;have:=HQ.out;simp_all;done))
end Go.Proofs.YtocdckniokhbbaaGreatDoor.LexJ
