import Derived.Test.YtocdckniokhbbaaGreatDoorZkZz
import Derived.Test.YtocdckniokhbbaaGreatDoorZkSynCa
import Derived.Test.YtocdckniokhbbaaGreatDoorZkSynML
import Derived.Test.YtocdckniokhbbaaGreatDoorZkPSx1
import Derived.Test.YtocdckniokhbbaaGreatDoorZkSynR
import Derived.Lib.RuneCountTail
import Derived.Deep.QuietTactic
import Derived.BigQuiet
set_option linter.unusedVariables false
set_option linter.unusedSimpArgs false
open Go.Proofs.Tryz renaming prog→Aj
open Go.Value renaming string→Ac,int→Aa,bool→Ae
open Option renaming bind_some→AH
open Go.IntKind renaming i64→Ab
open Nat renaming le_refl→Ag,zero_le→Ba,le_of_lt→Ah
open List renaming length_append→Ar,length_cons→AK
open Go.ByteArray renaming toList_eq→Aq
open Go.Lib renaming size_eq→Bh,decodeL→Bk,decodeGo→B9,indexByte→BG
open Go.RowKit.Below renaming refl→Ao
set_option maxHeartbeats 4000000
set_option maxRecDepth 100000
namespace Go.Proofs.YtocdckniokhbbaaGreatDoor.Syn
open Go.RowKit Go.Shelf YtocdckniokhbbaaGreatDoorW.PrintWords YtocdckniokhbbaaGreatDoorW.PrintLast YtocdckniokhbbaaGreatDoorW.PrintMore CharB SpanA FigD LexA LexF
theorem qg21 (p:Nat) (A:Option Addr) (cap:Nat) (l r:List Wd) (nm:List UInt8) (w:World) (h:PB p A cap l r w) (n:Nat) (hn:80*r.length≤n+20)
  (hb:∀ m,m≤n→ ∀ r W,80*r.length+60≤m→PB p A cap l r W→Calls Aj 27 #[qv p] W (Ans p A cap l W (isE W.heap.size) (qk3 m 0 r))) :
  Calls Aj 219 #[qv p,Ac (ba nm)] w (Ans p A cap l w (isE w.heap.size) (qf10 (n+1) nm r)):=by
 rw [qf10]
 cases ht:takeW 1 [40] r with
 | none=>exact qq24 p A cap l r nm w h ht
 | some r1=>
  have hlr:r.length=r1.length+1:=by obtain⟨x0,h0,_⟩:=qg1 ht;rw [h0];rfl
  simp only [AH]
  cases ht2:takeW 1 [41] r1 with
  | some r2=>exact qd17 p A cap l r nm w h r1 r2 ht ht2
  | none=>exact qh21 p A cap l r nm w h r1 ht ht2 n (by omega) hb
end Go.Proofs.YtocdckniokhbbaaGreatDoor.Syn
namespace Go.Proofs.YtocdckniokhbbaaGreatDoor.Syn
open Go.RowKit Go.Shelf YtocdckniokhbbaaGreatDoorW.PrintWords YtocdckniokhbbaaGreatDoorW.PrintLast YtocdckniokhbbaaGreatDoorW.PrintMore CharB SpanA FigD LexA LexF
structure WK (p:Nat) (A:Option Addr) (cap:Nat) (l:List Wd) (m:Nat):Prop where
 bin:∀ k,k≤5→ ∀ r W,80*r.length+60 - k≤m→PB p A cap l r W→Calls Aj 52 #[qv p,Aa Ab (k:Int)] W (Ans p A cap l W (isE W.heap.size) (qk3 m k r))
 signed:∀ r W,80*r.length+53≤m→PB p A cap l r W→Calls Aj 95 #[qv p] W (Ans p A cap l W (isE W.heap.size) (qr4 m r))
 union:∀ r W,80*r.length+52≤m→PB p A cap l r W→Calls Aj 132 #[qv p] W (Ans p A cap l W (isE W.heap.size) (qf6 m r))
 path:∀ r W,80*r.length+51≤m→PB p A cap l r W→Calls Aj 173 #[qv p] W (Ans p A cap l W (isE W.heap.size) (qb6 m r))
 loc:∀ r W,80*r.length+41≤m→PB p A cap l r W→Calls Aj 192 #[qv p] W (Ans p A cap l W (isE W.heap.size) (qo21 m r))
 filter:∀ r W,qf2 r=true→80*r.length+40≤m→PB p A cap l r W→Calls Aj 193 #[qv p] W (Ans p A cap l W (isE W.heap.size) (qj4 m r))
 prim:∀ r W,80*r.length+30≤m→PB p A cap l r W→Calls Aj 208 #[qv p] W (Ans p A cap l W (isE W.heap.size) (qh8 m r))
 preds:∀ r W,80*r.length+21≤m→PB p A cap l r W→Calls Aj 209 #[qv p] W (Ans p A cap l W (qi20 W.heap.size) (qv1 m [] r))
 step:∀ r W,80*r.length+40≤m→PB p A cap l r W→Calls Aj 207 #[qv p] W (Ans p A cap l W (isX W.heap.size) (qv2 m r))
 call:∀ s r W,80*r.length+1≤m→PB p A cap l r W→Calls Aj 219 #[qv p,Ac (ba s)] W (Ans p A cap l W (isE W.heap.size) (qf10 m s r))
theorem all_W (p:Nat) (A:Option Addr) (cap:Nat) (l:List Wd) (hax:∀ s W,Calls Aj 215 #[Ac (ba s)] W fun e w'=>e= .returned (Aa Ab (qp1 s))∧Below W.heap.size W w') (n:Nat):WK p A cap l n:=by
 induction n using Nat.strongRecOn with
 | ind n ih=>
  cases n with
  | zero=>exact⟨fun k hk r W h=>absurd h (by omega),fun r W h=>absurd h (by omega),fun r W h=>absurd h (by omega),fun r W h=>absurd h (by omega),fun r W h=>absurd h (by omega),fun r W _ h=>absurd h (by omega),fun r W h=>absurd h (by omega),fun r W h=>absurd h (by omega),fun r W h=>absurd h (by omega),fun s r W h=>absurd h (by omega)⟩
  | succ n=>
   have I:∀ m,m≤n→WK p A cap l m:=fun m hm=>ih m (by omega)
   have hor:∀ m,m≤n→ ∀ r W,80*r.length+60≤m→PB p A cap l r W→Calls Aj 27 #[qv p] W (Ans p A cap l W (isE W.heap.size) (qk3 m 0 r)):=
    fun m hm r W hl hP=>qh14 p A cap l r m W hP (fun W' hP'=>(I m hm).bin 0 (by omega) r W' (by omega) hP')
   have hst:∀ m,m≤n→ ∀ r W,80*r.length+40≤m→PB p A cap l r W→Calls Aj 207 #[qv p] W (Ans p A cap l W (isX W.heap.size) (qv2 m r)):=fun m hm r W hl hP=>(I m hm).step r W hl hP
   have hbin:∀ k,k≤5→ ∀ r W,80*r.length+60 - k≤n+1→PB p A cap l r W→Calls Aj 52 #[qv p,Aa Ab (k:Int)] W (Ans p A cap l W (isE W.heap.size) (qk3 (n+1) k r)):=by
    intro k hk r W hl hP;by_cases h5:k=5
    ·refine qf17 p A cap l r n k h5 (by omega) W hP fun m hm r W hl hP=>?_;subst h5
     cases m with
     | zero=>omega
     | succ m=>
      rw [qk3,if_pos (Ag _)];exact(I m (by omega)).signed r W (by omega) hP
    ·exact qg17 p A cap l r n k (by omega) (by omega) W hP fun m hm r W hl hP=>(I m hm).bin (k+1) (by omega) r W (by omega) hP
   have hor1:∀ m,m≤n+1→ ∀ r W,80*r.length+60≤m→PB p A cap l r W→Calls Aj 27 #[qv p] W (Ans p A cap l W (isE W.heap.size) (qk3 m 0 r)):=fun m hm r W hl hP=>by
    by_cases he:m=n+1
    ·subst he;exact qh14 p A cap l r (n+1) W hP (fun W' hP'=>hbin 0 (by omega) r W' (by omega) hP')
    ·exact hor m (by omega) r W hl hP
   refine⟨hbin,?_,?_,?_,?_,?_,?_,?_,?_,?_⟩
   ·intro r W hl hP;rw [qr4]
    cases ht:takeW 5 [45] r with
    | none=>exact qs12 p A cap l r ht _ W hP fun W' hP'=>(I n (Ag _)).union r W' (by omega) hP'
    | some r1=>
     have hlr:r.length=r1.length+1:=by obtain⟨x0,h0,_⟩:=qg1 ht;rw [h0];rfl
     exact qt12 p A cap l r r1 ht _ W hP fun W' hP'=>(I n (Ag _)).signed r1 W' (by omega) hP'
   ·intro r W hl hP;exact qx15 p A cap l r n (by omega) W hP fun m hm r W hl hP=>(I m hm).path r W hl hP
   ·intro r W hl hP;exact qd19 p A cap l r W hP n (by omega) (fun hb W hP=>(I n (Ag _)).filter r W hb (by omega) hP) (fun _ W hP=>(I n (Ag _)).loc r W (by omega) hP) hst
   ·intro r W hl hP;exact qq23 p A cap l r W hP n (by omega) hst
   ·intro r W hb hl hP
    exact qo14 p A cap l r n W hP (fun W hP=>(I n (Ag _)).prim r W (by omega) hP) (fun r1 W hl1 hP=>(I n (Ag _)).preds r1 W (by omega) hP)
     (fun x r1 hx=>by obtain⟨u,hu,_⟩:=(qj3 n).prim hb hx;rw [hu,Ar];omega)
   ·intro r W hl hP;exact qa19 p A cap l r n W hP (fun s r1 W hlt hP=>(I n (Ag _)).call s r1 W (by omega) hP) (fun r1 W hlt hP=>hor n (Ag _) r1 W (by omega) hP)
   ·intro r W hl hP;exact qh16 p A cap l r (n+1) (by omega) W hP hor1
   ·intro r W hl hP;exact qj18 p A cap l r n W hP (fun r2 W hl2 hP=>(I n (Ag _)).preds r2 W (by omega) hP) hax
   ·intro s r W hl hP;exact qg21 p A cap l r s W hP n (by omega) hor
theorem qa23 (p:Nat) (A:Option Addr) (cap:Nat) (l r:List Wd) (n:Nat) (hn:80*r.length+60≤n) (hax:∀ s W,Calls Aj 215 #[Ac (ba s)] W fun e w'=>e= .returned (Aa Ab (qp1 s))∧Below W.heap.size W w') (W:World) (h:PB p A cap l r W) :
  Calls Aj 27 #[qv p] W (Ans p A cap l W (isE W.heap.size) (qk3 n 0 r)):=
 qh14 p A cap l r n W h fun W' hP'=>(all_W p A cap l hax n).bin 0 (by omega) r W' (by omega) hP'
end Go.Proofs.YtocdckniokhbbaaGreatDoor.Syn
namespace Go.Proofs.YtocdckniokhbbaaGreatDoor.Syn
open Go.RowKit Go.Shelf YtocdckniokhbbaaGreatDoorW.PrintWords YtocdckniokhbbaaGreatDoorW.PrintLast YtocdckniokhbbaaGreatDoorW.PrintMore CharB SpanA FigD LexA LexF PS
def nmA (i:Nat):List UInt8:=axesL.getD (i - 1) []
theorem name_at:∀ i:Nat,1≤i→i≤12→ ∃ b,axis_Name.f (i:Int)=some b∧b.toList=nmA i:=by
 intro i h1 h2;have h:i=1∨i=2∨i=3∨i=4∨i=5∨i=6∨i=7∨i=8∨i=9∨i=10∨i=11∨i=12:=by omega
 rcases h with rfl | rfl | rfl | rfl | rfl | rfl | rfl | rfl | rfl | rfl | rfl | rfl<;>exact⟨_,rfl,by rw [Aq];rfl⟩
theorem l0_at (x:ByteArray) (k i:Nat) (h1:1≤i) (h2:i≤12):axis_Of.l0 (k+1) x (i:Int)=if nmA i=x.toList then some (i:Int)else axis_Of.l0 k x ((i+1:Nat):Int):=by
 obtain⟨b,hb,hl⟩:=name_at i h1 h2;have hw:wrap64 ((i:Int)+1)=((i+1:Nat):Int):=by unfold wrap64;omega
 rw [axis_Of.l0,if_pos (by omega),hb,AH,hl,hw]
theorem qf20 (x:ByteArray):∀ (L:List (List UInt8)) (i:Nat),1≤i→axesL.drop (i - 1)=L→i+L.length=13→axis_Of.l0 (L.length+1) x (i:Int)=some (if L.contains x.toList then(L.idxOf x.toList:Int)+(i:Int)else 0)
 | [],i,h1,hd,hl=>by
  obtain rfl:i=13:=by simpa using hl
  rw [axis_Of.l0,if_neg (by decide)];rfl
 | N :: L,i,h1,hd,hl=>by
  have hh:axesL[i - 1]?=some N:=by have:=congrArg List.head? hd;rw [List.head?_drop]at this;exact this
  have hN:nmA i=N:=by unfold nmA;rw [List.getD_eq_getElem?_getD,hh];rfl
  have hd':axesL.drop (i+1 - 1)=L:=by rw [show i+1 - 1=(i - 1)+1 by omega,← List.tail_drop,hd];rfl
  rw [AK]at hl;rw [AK,l0_at x _ i h1 (by omega),hN];by_cases he:N=x.toList
  ·rw [if_pos he,← he];simp
  ·have h2:=qf20 x L (i+1) (by omega) hd' (by omega);rw [if_neg he,h2];have h3:(x.toList == N)=false:=by simp;exact fun h=>he h.symm
   have h4:(N == x.toList)=false:=by simp;exact he
   rw [List.contains_cons,h3,Bool.false_or,List.idxOf_cons,h4]
   congr 1
   split
   ·simp only [cond_false];push_cast;omega
   ·rfl
theorem l0_all (x:ByteArray):axis_Of.l0 13 x 1=some (qp1 x.toList):=by
 have h:=qf20 x axesL 1 (Ag _) rfl rfl;exact h
theorem qt24 (s:List UInt8) (W:World):Calls Aj 215 #[Ac (ba s)] W fun e w'=>e= .returned (Aa Ab (qp1 s))∧Below W.heap.size W w':=
 (axis_Of.calls 13 (ba s) (qp1 s) W (by rw [axis_Of.f,l0_all,Aq];rfl)).mono fun e w' ⟨h1,h2⟩=>⟨h1,h2.below⟩
end Go.Proofs.YtocdckniokhbbaaGreatDoor.Syn
namespace Go.Proofs.YtocdckniokhbbaaGreatDoor.LexG
open Go.RowKit Go.Shelf YtocdckniokhbbaaGreatDoorW.PrintWords YtocdckniokhbbaaGreatDoorW.PrintLast YtocdckniokhbbaaGreatDoorW.PrintMore CharA CharB CharD CharF SpanA FigA FigC FigD FigG FigI LexA LexF
theorem ql14 (c:UInt8) (w:World):Calls Aj 122 #[.int .u8 (c.toNat:Int)] w fun e w'=>e= .returned (Ae (qb2 c))∧w=w':=by
 by_cases h1:48≤c.toNat
 ·have d1:decide ((48:Int)≤(c.toNat:Int))=true:=by simp;omega
  by_cases h2:c.toNat≤57
  ·have d2:decide ((c.toNat:Int)≤(57:Int))=true:=by simp;omega
   rw [(qm3 c).2 ⟨h1,h2⟩];clear h1 h2;go_enter Tryz.func122,Tryz.ntmps122;go_wp2;go_ret;exact⟨rfl,rfl⟩
  ·have d2:decide ((c.toNat:Int)≤(57:Int))=false:=by simp;omega
   rw [show qb2 c=false by cases h:qb2 c with | false=>rfl | true=>exact absurd ((qm3 c).1 h).2 h2];clear h1 h2;go_enter Tryz.func122,Tryz.ntmps122;go_wp2;go_ret;exact⟨rfl,rfl⟩
 ·have d1:decide ((48:Int)≤(c.toNat:Int))=false:=by simp;omega
  rw [show qb2 c=false by cases h:qb2 c with | false=>rfl | true=>exact absurd ((qm3 c).1 h).1 h1];clear h1;go_enter Tryz.func122,Tryz.ntmps122;go_wp2;go_ret;exact⟨rfl,rfl⟩
def dgN (s:ByteArray):Nat:=(s.data.toList.takeWhile qb2).length
theorem qs15 (s:ByteArray):dgN s≤s.size:=by unfold dgN;rw [Bh];exact(List.takeWhile_sublist _).length_le
theorem qm2 (s:ByteArray) (w:World) (hs:s.size≤1000000000) :
  Calls Aj 89 #[Ac s] w fun e w'=>e= .returned (Aa Ab (dgN s:Int))∧w=w':=by
 obtain⟨R,hR⟩:∃ R,dgN s=R:=⟨_,rfl⟩;rw [hR];have H1:=Aside0.mk hR;clear hR;have hlen:s.data.toList.length≤s.size∧s.size≤s.data.toList.length:=by rw [← Bh];exact⟨Ag _,Ag _⟩
 go_enter Tryz.func89,Tryz.ntmps89;go_wp2;go_loop [3] (fun i=>∃ k:Nat,i= Aa Ab (k:Int)∧Aside0 (k≤s.size)∧Aside0 ((s.data.toList.take k).all qb2=true)) (fun i=>s.size - (intOf i).toNat)
 case atStart=>exact⟨0,rfl,⟨Ba _⟩,⟨rfl⟩⟩
 case round=>
  obtain⟨k,rfl,HK,HA⟩:=hrel;have hk:=HK.out;by_cases hlt:k<s.size
  ·have hlt':k<s.data.toList.length:=by omega
   have hc:=ql14 (s[k]'hlt) w
   cases hd:qb2 (s[k]'hlt)with
   | true=>
    have hd2:=Aside0.mk hd;rw [hd]at hc;clear hd;go_wp2_with fail
    refine hc.mono ?_;rintro e w' ⟨rfl,rfl⟩;go_wp2_with fail
    go_round
    case rel=>exact⟨k+1,by go_num,⟨by omega⟩,⟨qe12 _ _ k hlt' HA.out hd2.out⟩⟩
    case measure=>simp [intOf];omega
   | false=>
    have hst:=qe5 qb2 s.data.toList k (by omega) HA.out (fun _=>hd);rw [hd]at hc;obtain rfl:R=k:=by rw [← H1.out];unfold dgN;rw [hst.1,List.length_take];omega
    clear hd hst H1;go_wp2_with fail
    refine hc.mono ?_;rintro e w' ⟨rfl,rfl⟩;go_wp2_with fail
    go_ret;exact⟨rfl,rfl⟩
  ·have hst:=qe5 qb2 s.data.toList k (by omega) HA.out (fun h=>absurd h (by omega));obtain rfl:R=k:=by rw [← H1.out];unfold dgN;rw [hst.1,List.length_take];omega
   clear hst H1;go_wp2_with fail
   go_ret;exact⟨rfl,rfl⟩
theorem ext_len (s:ByteArray) (k:Nat) (hk:k≤s.size):(s.extract k s.size).size=s.size - k:=by simp
theorem qe21 (s:ByteArray) (k:Nat) (hk:k<s.size):B9 (s.extract k s.size)=Bk (s.data.toList.drop k):=by
 have hsz:=ext_len s k (Ah hk);have h:=Lib.tail_decode s k 0;rw [Nat.add_zero]at h;unfold B9;rw [if_neg (by omega),h];exact(Lib.decodeL_drop s k).symm
theorem ext_all (s:ByteArray):s.extract 0 s.size=s:=qe2 (by rw [qo1,List.drop_zero,List.take_of_length_le za3])
theorem qj24 (s:ByteArray):s.extract s.size s.size=ByteArray.empty:=qe2 (by rw [qo1,Nat.sub_self,List.take_zero];rfl)
theorem qj10 (s:ByteArray) (h0:0<s.size) (h:(s[0]'h0).toNat<128):B9 s=((s[0]'h0).toNat,1):=by
 unfold B9;rw [if_neg (by omega),← Lib.decodeL_drop,List.drop_zero];have h0':0<s.data.toList.length:=by rw [← Bh];exact h0
 have e:s.data.toList=(s[0]'h0) :: s.data.toList.drop 1:=by
  have:=List.drop_eq_getElem_cons h0';rw [List.drop_zero]at this;exact this
 rw [e];exact Lib.decodeL_ascii _ _ h
theorem qq14 (s:ByteArray) (w:World) (hT:qz5 w) :
  Calls Aj 130 #[Ac s] w fun e w'=>e= .returned (.tuple #[.int .i32 (B9 s).1,Aa Ab (B9 s).2])∧Below w.heap.size w w':=by
 have hs:=Tryz.utf8_decodeRuneInStringSlow s w hT;by_cases h0:0<s.size
 ·by_cases h1:(s[0]'h0).toNat<128
  ·rw [qj10 s h0 h1];clear hs hT;have d0:s.toList.isEmpty=false:=by rw [Aq];cases e:s.data.toList with | nil=>rw [Bh,e]at h0;simp at h0 | cons _ _=>rfl
   have d1:decide (((s[0]'h0).toNat:Int)<128)=true:=by simp;omega
   go_enter Tryz.func130,Tryz.ntmps130;go_wp2_with fail
   go_ret2;exact⟨rfl,Ao _ _⟩
  ·have d0:s.toList.isEmpty=false:=by rw [Aq];cases e:s.data.toList with | nil=>rw [Bh,e]at h0;simp at h0 | cons _ _=>rfl
   have d1:decide (((s[0]'h0).toNat:Int)<128)=false:=by simp;omega
   generalize B9 s=q at *;clear hT;go_enter Tryz.func130,Tryz.ntmps130;go_wp2_with fail
   refine hs.mono ?_;rintro e w1 ⟨rfl,b1⟩;go_wp2_with fail
   go_ret2;exact⟨rfl,b1⟩
 ·have d0:s.toList= []:=by rw [Aq];exact List.length_eq_zero_iff.1 za3
  generalize B9 s=q at *;clear hT;go_enter Tryz.func130,Tryz.ntmps130;go_wp2_with fail
  refine hs.mono ?_;rintro e w1 ⟨rfl,b1⟩;go_wp2_with fail
  go_ret2;exact⟨rfl,b1⟩
theorem qe15 (f:Nat) (l:List UInt8) (h:l= []∨qh9 ((Bk l).1:Int)=false):qk17 f l= []:=by
 cases f with
 | zero=>rfl
 | succ f=>
  simp only [qk17]
  rcases h with h | h
  ·rw [if_pos h]
  ·rw [if_neg (show ¬ qh9 ((Bk l).1:Int)=true by rw [h];simp)]
   split<;>rfl
theorem qp22 (f:Nat) (l:List UInt8) (h0:l≠ []) (h:qh9 ((Bk l).1:Int)=true):qk17 (f+1) l=l.take (Bk l).2 ++ qk17 f (l.drop (Bk l).2):=by
 simp only [qk17];rw [if_neg h0,if_pos h]
theorem qe7 (s:ByteArray) (k:Nat) (hk:k≤s.size):s.extract 0 k=ba (s.data.toList.take k):=qe2 (by rw [qo1,qe1];simp)
theorem qv5 (s:ByteArray) (k:Nat) (hk:k≤s.size):s.extract k s.size=ba (s.data.toList.drop k):=qe2 (by rw [qo1,qe1,List.take_of_length_le (by rw [List.length_drop,← Bh];omega)])
theorem qo11 (s:ByteArray) (w:World) (hs:s.size≤1000000000) (hT:qz5 w) :
  Calls Aj 93 #[Ac s] w fun e w'=>e= .returned (.tuple #[Ac (ba (qi4 s.data.toList)),Ac (ba (s.data.toList.drop (qi4 s.data.toList).length))])∧Below w.heap.size w w':=by
 obtain⟨R,hR⟩:∃ R,qi4 s.data.toList=R:=⟨_,rfl⟩;rw [hR];have hlen:s.data.toList.length≤s.size∧s.size≤s.data.toList.length:=by rw [← Bh];exact⟨Ag _,Ag _⟩
 have H0:Aside0 (s.data.toList.take 0 ++ qk17 s.size (s.data.toList.drop 0)=R):=⟨by rw [List.take_zero,List.drop_zero,← hR];unfold qi4;rw [← Bh];rfl⟩;have HT:=Aside0.mk hT;clear hR hT;go_enter Tryz.func93,Tryz.ntmps93;go_wp2_with fail
 go_loopg [4] s.size (fun kq v4 w'=>∃ n:Nat,v4= Aa Ab (n:Int)∧Aside0 (s.data.toList.take n ++ qk17 kq (s.data.toList.drop n)=R)∧Aside0 (n≤s.size)∧Aside0 (s.size≤n+kq)∧Aside0 (Below w.heap.size w w'))
 case atStart=>exact⟨0,rfl,H0,⟨Ba _⟩,⟨by omega⟩,⟨Ao _ _⟩⟩
 case round=>
  obtain⟨n,rfl,HR,HN,HK,HB⟩:=hrel;have hn:=HN.out;clear H0;by_cases hlt:n<s.size
  ·obtain⟨k1,rfl⟩:∃ k1,gk=k1+1:=⟨gk - 1,by have:=HK.out;omega⟩;have hd:=qe21 s n hlt;have hne:s.data.toList.drop n≠ []:=fun e=>by have:=congrArg List.length e;rw [List.length_drop]at this;simp at this;omega
   have hwid:=Lib.decodeL_width (s.data.toList.drop n)
   have hpos:1≤(Bk (s.data.toList.drop n)).2∧n+(Bk (s.data.toList.drop n)).2≤s.size:=by
    have h1:=qt8 s n hlt;have h2:=qs21 s n hlt;rw [← Lib.decodeL_drop]at h1 h2;exact⟨h1,h2⟩
   have hdc:=qq14 (s.extract n s.size) wr (qj1 HT.out HB.out);rw [hd]at hdc;have hR:=HR.out
   cases hp:qh9 ((Bk (s.data.toList.drop n)).1:Int)with
   | true=>
    rw [qp22 k1 _ hne hp,List.drop_drop,← List.append_assoc]at hR;have et:s.data.toList.take n ++ (s.data.toList.drop n).take (Bk (s.data.toList.drop n)).2=s.data.toList.take (n+(Bk (s.data.toList.drop n)).2):=by rw [List.take_add]
    rw [et]at hR;have hpc:=fun W=>qp7 ((Bk (s.data.toList.drop n)).1:Int) W;rw [hp]at hpc;generalize Bk (s.data.toList.drop n)=q at *;obtain⟨q1,q2⟩:=q;simp only at hR hpos hdc hpc;have HR2:=Aside0.mk hR;obtain⟨p1,p2⟩:=hpos;have HP2:=Aside0.mk p2;have HP1:=Aside0.mk p1;clear hR et hp hwid hd hne HR;go_wp2_with fail
    refine hdc.mono ?_;rintro e w1 ⟨rfl,b1⟩;have B1:=Aside0.mk (chain HB.out (Ag _) b1);clear b1 hdc HB;go_wp2_with fail
    refine(hpc _).mono ?_;rintro e w2 ⟨rfl,b2⟩;have B2:=Aside0.mk (chain B1.out (Ag _) b2);clear b2 hpc B1;go_wp2_with fail
    go_roundg k1
    case measure=>omega
    case rel=>exact⟨n+q2,by first | rfl | go_num,HR2,⟨HP2.out⟩,⟨by have:=HK.out;have:=HP1.out;omega⟩,B2⟩
   | false=>
    rw [qe15 (k1+1) _ (.inr hp),List.append_nil]at hR;have e0:R.length=n:=by rw [← hR,List.length_take];omega
    have e1:=qe7 s n hn;have e2:=qv5 s n hn;rw [hR]at e1;have E1:=Aside0.mk e1;have E2:=Aside0.mk e2;have E0:=Aside0.mk e0;have hpc:=fun W=>qp7 ((Bk (s.data.toList.drop n)).1:Int) W;rw [hp]at hpc;generalize Bk (s.data.toList.drop n)=q at *;obtain⟨q1,q2⟩:=q;simp only at hpos hdc hpc;clear hR hp hwid hd hne HR hpos e1 e2 e0;go_wp2_with fail
    refine hdc.mono ?_;rintro e w1 ⟨rfl,b1⟩;have B1:=Aside0.mk (chain HB.out (Ag _) b1);clear b1 hdc HB;go_wp2_with fail
    refine(hpc _).mono ?_;rintro e w2 ⟨rfl,b2⟩;have B2:=Aside0.mk (chain B1.out (Ag _) b2);clear b2 hpc B1;go_wp2_with fail
    repeat(go_quiet (fail);try go_wp2_with fail)
    go_ret2;exact⟨by rw [E1.out,E2.out,E0.out];rfl,CharB.below_drewN B2.out _⟩
  ·obtain rfl:n=s.size:=by omega
   have hR:=HR.out;rw [qe15 gk _ (.inl (List.drop_eq_nil_of_le (by omega))),List.append_nil]at hR;have e0:R.length=s.size:=by rw [← hR,List.length_take];omega
   have e1:=qe7 s s.size (Ag _);have e2:=qv5 s s.size (Ag _);rw [hR]at e1;have e3:s=ba R:=by rw [← e1,ext_all]
   have e4:ByteArray.empty=ba (s.data.toList.drop R.length):=by rw [e0,← e2,qj24]
   have E3:=Aside0.mk e3;have E4:=Aside0.mk e4;clear hR HR e1 e2 e0 e3 e4 HK HN;go_wp2_with fail
   repeat(go_quiet (fail);try go_wp2_with fail)
   go_ret2;refine⟨?_,CharB.below_drewN HB.out _⟩;rw [← E4.out,← E3.out];rfl
theorem qn3 (s:ByteArray) (w:World):Calls Aj 43 #[Ac s,.func (.func 44) #[] #[]] w fun e w'=>e= .returned (Ac (ba (s.data.toList.dropWhile spB)))∧Below w.heap.size w w':=by
 have:=Tryz.strings_TrimLeftFunc_runes 44 #[] (enters_of Tryz.func44 zm rfl) sp s w (qb14 w);rw [qx13]at this;exact this
theorem qq15 (s:ByteArray) (p:ByteArray) (w:World):Calls Aj 131 #[Ac s,Ac p] w fun e w'=>e= .returned (Ae (p.data.toList.isPrefixOf s.data.toList))∧w=w':=
 (Tryz.strings_HasPrefix s p w).mono fun e w' ⟨h1,h2⟩=>⟨h1,h2.symm⟩
theorem pre_cut (p s:List UInt8) (h:p.isPrefixOf s=true):Lib.trimPrefix s p=s.drop p.length:=by unfold Lib.trimPrefix Lib.hasPrefix;rw [if_pos h]
theorem qb19 (s p r:ByteArray) (hp:p.data.toList.isPrefixOf s.data.toList=true) (hr:ba (s.data.toList.drop p.data.toList.length)=r) (w:World):Calls Aj 91 #[Ac s,Ac p] w fun e w'=>e= .returned (.tuple #[Ac r,Ae true])∧w=w':=by
 have:=Tryz.strings_CutPrefix s p w;rw [pre_cut _ _ hp,show Lib.hasPrefix s.data.toList p.data.toList=true from hp]at this;refine this.mono fun e w' ⟨h1,h2⟩=>⟨?_,h2.symm⟩;rw [h1,← hr];rfl
theorem qc13 (s p:ByteArray) (hp:p.data.toList.isPrefixOf s.data.toList=false) (w:World):Calls Aj 91 #[Ac s,Ac p] w fun e w'=>e= .returned (.tuple #[Ac s,Ae false])∧w=w':=by
 have:=Tryz.strings_CutPrefix s p w;have e:Lib.trimPrefix s.data.toList p.data.toList=s.data.toList:=by unfold Lib.trimPrefix Lib.hasPrefix;rw [if_neg (by rw [hp];simp)]
 rw [e,show Lib.hasPrefix s.data.toList p.data.toList=false from hp]at this;exact this.mono fun e w' ⟨h1,h2⟩=>⟨h1,h2.symm⟩
theorem qx21 (x:List UInt8):typesL.contains x=(x == [99,111,109,109,101,110,116] || x == [116,101,120,116] || x == [112,114,111,99,101,115,115,105,110,103,45,105,110,115,116,114,117,99,116,105,111,110] || x == [110,111,100,101]):=by
 unfold typesL;simp only [List.contains_cons,List.contains_nil,Bool.or_false,Bool.or_assoc]
theorem qg20 (t r:ByteArray) (w:World):Calls Aj 94 #[Ac t,Ac r] w fun e w'=>e= .returned (Aa Ab (qu16 t.data.toList r.data.toList))∧Below w.heap.size w w':=by
 have hl:=qn3 r w;have h1:=fun W=>qq15 (ba (r.data.toList.dropWhile spB)) ⟨#[40]⟩ W;have h2:=fun W=>qq15 (ba (r.data.toList.dropWhile spB)) ⟨#[58,58]⟩ W;unfold qu16;rw [qx21,← Aq t];rw [qe1,show(⟨#[40]⟩:ByteArray).data.toList= [40]from rfl]at h1;rw [qe1,show(⟨#[58,58]⟩:ByteArray).data.toList= [58,58]from rfl]at h2;generalize ([40]:List UInt8).isPrefixOf (r.data.toList.dropWhile spB)=c1 at *;generalize ([58,58]:List UInt8).isPrefixOf (r.data.toList.dropWhile spB)=c2 at *;generalize ba (r.data.toList.dropWhile spB)=r2 at *
 cases c1 with
 | true=>
  rw [if_pos rfl];obtain⟨q,hq⟩:∃ q,(t.toList == [99,111,109,109,101,110,116] || t.toList == [116,101,120,116] || t.toList == [112,114,111,99,101,115,115,105,110,103,45,105,110,115,116,114,117,99,116,105,111,110] || t.toList == [110,111,100,101])=q:=⟨_,rfl⟩;rw [hq];have HQ:=Aside0.mk hq;clear hq h2
  cases q
  all_goals
   first | rw [if_pos rfl] | rw [if_neg Bool.false_ne_true]
   go_enter Tryz.func94,Tryz.ntmps94;go_wp2_with fail
   refine hl.mono ?_;rintro e w1 ⟨rfl,b1⟩;go_wp2_with fail
   refine(h1 _).mono ?_;rintro e w2 ⟨rfl,rfl⟩;go_wp2_with fail
   all_goals
    go_ret;refine⟨?_,b1⟩
    first | rfl | (exfalso;have:=HQ.out;simp [*]at this;done) | (exfalso;have:=HQ.out;simp_all;done)
 | false=>
  rw [if_neg (by simp)]
  cases c2 with
  | true=>
   rw [if_pos rfl];go_enter Tryz.func94,Tryz.ntmps94;go_wp2_with fail
   refine hl.mono ?_;rintro e w1 ⟨rfl,b1⟩;go_wp2_with fail
   refine(h1 _).mono ?_;rintro e w2 ⟨rfl,rfl⟩;go_wp2_with fail
   refine(h2 _).mono ?_;rintro e w2 ⟨rfl,rfl⟩;go_wp2_with fail
   go_ret;exact⟨rfl,b1⟩
  | false=>
   rw [if_neg (by simp)];go_enter Tryz.func94,Tryz.ntmps94;go_wp2_with fail
   refine hl.mono ?_;rintro e w1 ⟨rfl,b1⟩;go_wp2_with fail
   refine(h1 _).mono ?_;rintro e w2 ⟨rfl,rfl⟩;go_wp2_with fail
   refine(h2 _).mono ?_;rintro e w2 ⟨rfl,rfl⟩;go_wp2_with fail
   go_ret;exact⟨rfl,b1⟩
end Go.Proofs.YtocdckniokhbbaaGreatDoor.LexG
namespace Go.Proofs.YtocdckniokhbbaaGreatDoor.LexH
open Go.RowKit Go.Shelf YtocdckniokhbbaaGreatDoorW.PrintWords YtocdckniokhbbaaGreatDoorW.PrintLast YtocdckniokhbbaaGreatDoorW.PrintMore CharA CharB CharD CharF SpanA FigA FigC FigD FigG FigI LexA LexF LexG
theorem qm9 (c:UInt8):∀ l:List UInt8,BG l c=match qm13 c l with | none=> -1 | some (a,_)=>(a.length:Int)
 | []=>rfl
 | d :: t=>by
  have ih:=qm9 c t;simp only [BG,qm13];by_cases h:d=c
  ·rw [if_pos h,if_pos (by first | exact h | (simpa using h))];rfl
  ·rw [if_neg h,if_neg (by first | exact h | (simpa using h)),ih]
   cases qm13 c t with
   | none=>simp
   | some q=>
    obtain⟨a,r⟩:=q;have:((a.length:Int) == -1)=false:=by rw [beq_eq_false_iff_ne];omega
    simp [this]
theorem qd20 (s:ByteArray) (c:UInt8) (h:qm13 c s.data.toList=none) (w:World) :
  Calls Aj 121 #[Ac s,Ac ⟨#[c]⟩] w fun e w'=>e= .returned (.tuple #[Ac s,Ac ⟨#[]⟩,Ae false])∧ ∃ n,w'=w.drewN n:=by
 have hi:=fun W=>Tryz.stringslite_Index_one s c W;rw [qm9,h]at hi;simp only at hi;clear h;go_enter Tryz.func121,Tryz.ntmps121;go_wp2_with fail
 refine(hi _).mono ?_;rintro e w1 ⟨rfl,rfl⟩;go_wp2_with fail
 go_ret3;exact⟨rfl,0,rfl⟩
theorem qc20 (s:ByteArray) (c:UInt8) (a r:List UInt8) (h:qm13 c s.data.toList=some (a,r)) (hs:s.size≤1000000000) (w:World) :
  Calls Aj 121 #[Ac s,Ac ⟨#[c]⟩] w fun e w'=>e= .returned (.tuple #[Ac (ba a),Ac (ba r),Ae true])∧ ∃ n,w'=w.drewN n:=by
 have hi:=fun W=>Tryz.stringslite_Index_one s c W;rw [qm9,h]at hi;simp only at hi;have hl:=(qq8 c _ a r h).1;obtain⟨i,hI⟩:∃ i,a.length=i:=⟨_,rfl⟩;have hlen:s.size=i+1+r.length:=by rw [Bh,hl,Ar,AK];omega
 have e1:s.extract 0 i=ba a:=by rw [qe7 s i (by omega),hl,← hI,List.take_left]
 have e2:s.extract (i+1) s.size=ba r:=by rw [qv5 s (i+1) (by omega),hl,← hI];congr 1;simp
 rw [hI]at hi;have c1:(0:Int)≤(i:Int):=by omega
 have c2:(i:Int)≤(s.size:Int):=by omega
 have c3:(0:Int)≤(i:Int)+1:=by omega
 have c4:(i:Int)+1≤(s.size:Int):=by omega
 have E1:=Aside0.mk e1;have E2:=Aside0.mk e2;have ez:(⟨#[c]⟩:ByteArray).size=1:=rfl;clear h hl hI hlen e1 e2;go_enter Tryz.func121,Tryz.ntmps121;go_wp2_with fail
 refine(hi _).mono ?_;rintro e w1 ⟨rfl,rfl⟩;go_wp2_with fail
 repeat(go_quiet (fail);try go_wp2_with fail)
 go_ret3;exact⟨by rw [E1.out,E2.out];rfl,_,rfl⟩
theorem qm24 (s:ByteArray) (c:UInt8) (h:qm13 c s.data.toList=none) (w:World) :
  Calls Aj 87 #[Ac s,Ac ⟨#[c]⟩] w fun e w'=>e= .returned (.tuple #[Ac s,Ac ⟨#[]⟩,Ae false])∧ ∃ n,w'=w.drewN n:=by
 have hi:=fun W=>qd20 s c h W;clear h;go_enter Tryz.func87,Tryz.ntmps87;go_wp2_with fail
 refine(hi _).mono ?_;rintro e w1 ⟨rfl,n,rfl⟩;go_wp2_with fail
 go_ret3;exact⟨rfl,n,rfl⟩
theorem ql24 (s:ByteArray) (c:UInt8) (a r:List UInt8) (h:qm13 c s.data.toList=some (a,r)) (hs:s.size≤1000000000) (w:World) :
  Calls Aj 87 #[Ac s,Ac ⟨#[c]⟩] w fun e w'=>e= .returned (.tuple #[Ac (ba a),Ac (ba r),Ae true])∧ ∃ n,w'=w.drewN n:=by
 have hi:=fun W=>qc20 s c a r h hs W;clear h;go_enter Tryz.func87,Tryz.ntmps87;go_wp2_with fail
 refine(hi _).mono ?_;rintro e w1 ⟨rfl,n,rfl⟩;go_wp2_with fail
 go_ret3;exact⟨rfl,n,rfl⟩
theorem u8i (a:UInt8) (n:Nat) (hn:n<256):((a.toNat:Int)=(n:Int))↔a=UInt8.ofNat n:=by
 constructor
 ·intro h;apply UInt8.toNat_inj.1;rw [UInt8.toNat_ofNat'];omega
 ·rintro rfl;rw [UInt8.toNat_ofNat'];omega
structure Head (s:ByteArray) (c:UInt8) (t:ByteArray):Prop where
 pos:0<s.size
 at0:s[0]'pos=c
 list:s.data.toList=c :: t.data.toList
 first:s.extract 0 1=⟨#[c]⟩
 rest:s.extract 1 s.size=t
 size:s.size=t.size+1
theorem qn5 (c:UInt8) (t:List UInt8):Head (ba (c :: t)) c (ba t):=by
 have hp:0<(ba (c :: t)).size:=by rw [qs1];simp
 refine⟨hp,rfl,rfl,?_,?_,?_⟩
 ·rw [qe7 _ 1 (by rw [qs1];simp)];rfl
 ·rw [qv5 _ 1 (by rw [qs1];simp)];rfl
 ·rw [qs1,qs1];rfl
theorem qr16 (b B:Nat) (s t:ByteArray) (c:UInt8) (l:List Wd) (w:World) (h:LB b B s l false w) (hd:Head s c t) (hc:¬ (c=34∨c=39)) :
  Calls Aj 45 #[qr1 b] w fun e w'=>e= .returned (Ae false)∧w=w':=by
 obtain⟨v,h1,_⟩:=h;have c0:w.cell? ⟨b,0,none⟩=some (Ac s):=by rw [qb1 h1];rfl
 have hp:=hd.pos;have q1:(((s[0]'hp).toNat:Int) !=34)=true:=by rw [hd.at0,bne_iff_ne];intro q;exact hc (.inl ((u8i c 34 (by omega)).1 q))
 have q2:(((s[0]'hp).toNat:Int) !=39)=true:=by rw [hd.at0,bne_iff_ne];intro q;exact hc (.inr ((u8i c 39 (by omega)).1 q))
 clear hd h1 hc;unfold qr1;go_enter Tryz.func45,Tryz.ntmps45;go_wp2_with fail
 go_ret;exact⟨rfl,rfl⟩
theorem qf13 (b B:Nat) (s t:ByteArray) (c:UInt8) (l:List Wd) (w:World) (h:LB b B s l false w) (hb:b<B) (hd:Head s c t) (hc:c=34∨c=39) (hq:qm13 c t.data.toList=none) :
  Calls Aj 45 #[qr1 b] w fun e w'=>e= .returned (Ae true)∧LB b B s l true w'∧Fr b B w w':=by
 have hf:=fun n=>qo3 b B s l (w.drewN n) (h.drewN n) hb;have hcut:=fun W=>qm24 t c hq W;have HF:=Aside0.mk (Fr.refl b B w);obtain⟨v,h1,_⟩:=h;have c0:w.cell? ⟨b,0,none⟩=some (Ac s):=by rw [qb1 h1];rfl
 have hp:=hd.pos;have x1:=hd.first;have x2:=hd.rest;have x3:(1:Int)≤(s.size:Int):=by omega
 have q1:(((s[0]'hp).toNat:Int) !=34)= !decide (c=34):=by rw [hd.at0];rcases hc with rfl | rfl<;>rfl
 have q2:(((s[0]'hp).toNat:Int) !=39)= !decide (c=39):=by rw [hd.at0];rcases hc with rfl | rfl<;>rfl
 clear hd h1 hq;unfold qr1 at hf ⊢
 rcases hc with rfl | rfl
 all_goals
  simp at q1 q2;go_enter Tryz.func45,Tryz.ntmps45;go_wp2_with fail
  go_quiet ((go_at_call 87;exact Calls.quiet_of (hcut _)));go_wp2_with fail
  refine(hf _).mono ?_;rintro e w2 ⟨rfl,h2,f2⟩;go_wp2_with fail
  go_ret;exact⟨rfl,h2,(HF.out.drewN _).trans f2⟩
theorem qk14 (b B:Nat) (s t:ByteArray) (c:UInt8) (a r:List UInt8) (l:List Wd) (w:World) (h:LB b B s l false w) (hb:b<B) (hB:B≤w.heap.size) (hl:l.length≤1000) (hs:s.size≤1000000000) (hd:Head s c t) (hc:c=34∨c=39) (hq:qm13 c t.data.toList=some (a,r)) :
  Calls Aj 45 #[qr1 b] w fun e w'=>e= .returned (Ae true)∧LB b B (ba r) (l ++ [(8,a,0,0)]) false w'∧Fr b B w w':=by
 have hf:=fun n=>qq5 b B s l 8 (ba a) (ba r) (w.drewN n) (h.drewN n) hb hB hl;have hsz:=hd.size;have hcut:=fun W=>ql24 t c a r hq (by omega) W;have HF:=Aside0.mk (Fr.refl b B w);obtain⟨v,h1,_⟩:=h;have c0:w.cell? ⟨b,0,none⟩=some (Ac s):=by rw [qb1 h1];rfl
 have hp:=hd.pos;have x1:=hd.first;have x2:=hd.rest;have x3:(1:Int)≤(s.size:Int):=by omega
 have q1:(((s[0]'hp).toNat:Int) !=34)= !decide (c=34):=by rw [hd.at0];rcases hc with rfl | rfl<;>rfl
 have q2:(((s[0]'hp).toNat:Int) !=39)= !decide (c=39):=by rw [hd.at0];rcases hc with rfl | rfl<;>rfl
 rw [qe1]at hf;clear hd h1 hq hsz;unfold qr1 at hf ⊢
 rcases hc with rfl | rfl
 all_goals
  simp at q1 q2;go_enter Tryz.func45,Tryz.ntmps45;go_wp2_with fail
  go_quiet ((go_at_call 87;exact Calls.quiet_of (hcut _)));go_wp2_with fail
  refine(hf _).mono ?_;rintro e w2 ⟨rfl,h2,f2⟩;go_wp2_with fail
  go_ret;exact⟨rfl,h2,(HF.out.drewN _).trans f2⟩
theorem star_no (b B:Nat) (s t:ByteArray) (c:UInt8) (l:List Wd) (w:World) (h:LB b B s l false w) (hd:Head s c t) (hc:¬ c=42) :
  Calls Aj 48 #[qr1 b] w fun e w'=>e= .returned (Ae false)∧w=w':=by
 obtain⟨v,h1,_⟩:=h;have c0:w.cell? ⟨b,0,none⟩=some (Ac s):=by rw [qb1 h1];rfl
 have hp:=hd.pos;have q1:(((s[0]'hp).toNat:Int) !=42)=true:=by rw [hd.at0,bne_iff_ne];intro q;exact hc ((u8i c 42 (by omega)).1 q)
 clear hd h1 hc;unfold qr1;go_enter Tryz.func48,Tryz.ntmps48;go_wp2_with fail
 go_ret;exact⟨rfl,rfl⟩
theorem qm22 (b B:Nat) (s t:ByteArray) (c:UInt8) (l:List Wd) (w:World) (h:LB b B s l false w) (hb:b<B) (hB:B≤w.heap.size) (hl:l.length≤1000) (hd:Head s c t) (hc:c=42) :
  Calls Aj 48 #[qr1 b] w fun e w'=>e= .returned (Ae true)∧LB b B t (l ++ [(if qe3 l=true then 5 else 3,[42],0,0)]) false w'∧Fr b B w w':=by
 have he:=qk13 b B s l w h hl;have hf:∀ k W,Below w.heap.size w W→_:=fun k W hW=>qq5 b B s l k ⟨#[42]⟩ t W (h.below hW) hb (Nat.le_trans hB hW.size) hl;have hlt:=h.lt;have HF:∀ W,Below w.heap.size w W→Fr b B w W:=fun W hW=>Fr.of_below hW hB (Ah hb);have c1:∀ W,Below w.heap.size w W→W.cell? ⟨b,0,none⟩=some (Ac s):=fun W hW=>by obtain⟨v,h1,_⟩:=h.below hW;rw [qb1 h1];rfl
 have c0:=c1 w (Ao _ _);have hp:=hd.pos;have x2:=hd.rest;have x3:(1:Int)≤(s.size:Int):=by omega
 have q1:(((s[0]'hp).toNat:Int) !=42)=false:=by rw [hd.at0,hc];rfl
 have HE:=Aside0.mk hf;have HF2:=Aside0.mk HF;have HC:=Aside0.mk c1;clear hd h hc hf HF c1;unfold qr1 at he HE ⊢
 cases hq:qe3 l with
 | true=>
  rw [hq]at he;clear hq;go_enter Tryz.func48,Tryz.ntmps48;go_wp2_with fail
  refine he.mono ?_;rintro e w1 ⟨rfl,b1⟩;have c2:=HC.out _ b1;have hs:=HE.out 5 _ b1;have F1:=Aside0.mk (HF2.out _ b1);clear b1;go_wp2_with fail
  refine hs.mono ?_;rintro e w2 ⟨rfl,h2,f2⟩;go_wp2_with fail
  go_ret;exact⟨rfl,h2,F1.out.trans f2⟩
 | false=>
  rw [hq]at he;clear hq;go_enter Tryz.func48,Tryz.ntmps48;go_wp2_with fail
  refine he.mono ?_;rintro e w1 ⟨rfl,b1⟩;have c2:=HC.out _ b1;have hs:=HE.out 3 _ b1;have F1:=Aside0.mk (HF2.out _ b1);clear b1;go_wp2_with fail
  refine hs.mono ?_;rintro e w2 ⟨rfl,h2,f2⟩;go_wp2_with fail
  go_ret;exact⟨rfl,h2,F1.out.trans f2⟩
end Go.Proofs.YtocdckniokhbbaaGreatDoor.LexH
