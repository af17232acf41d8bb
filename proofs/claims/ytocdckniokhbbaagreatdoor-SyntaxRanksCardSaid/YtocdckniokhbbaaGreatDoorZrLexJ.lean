import Derived.Test.YtocdckniokhbbaaGreatDoorZrZz
import Derived.Test.YtocdckniokhbbaaGreatDoorZrPSx1
import Derived.Test.YtocdckniokhbbaaGreatDoorZrSynN
import Derived.Lib.RuneCountTail
import Derived.Deep.QuietTactic
import Derived.BigQuiet
set_option linter.unusedVariables false
set_option linter.unusedSimpArgs false
open Go.ByteArray renaming toList_eq→AB
open Option renaming bind_some→Ay,some→Az
open List renaming length_cons→AE,contains_cons→Bv,drop_eq_getElem_cons→AQ,length_drop→Bf,append_assoc→A9,length_append→Aq,getElem?_eq_getElem→AH
open Nat renaming le_refl→Ag,zero_le→A6,le_of_lt→Ah
open Go.Value renaming int→Aa,string→Ac,bool→Ae
open Go.IntKind renaming i64→Ab
open Go.Proofs.Tryz renaming prog→Am
open Go.Lib renaming size_eq→A8,decodeL→AU,decodeGo→BR,decodeL_drop→BJ
open Go.RowKit.Below renaming refl→Ao
open Bool renaming false_eq_true→AR
set_option maxHeartbeats 16000000
set_option maxRecDepth 100000
namespace Go.Proofs.YtocdckniokhbbaaGreatDoor.Syn
open Go.RowKit Go.Shelf YtocdckniokhbbaaGreatDoorW.PrintWords YtocdckniokhbbaaGreatDoorW.PrintLast YtocdckniokhbbaaGreatDoorW.PrintMore CharB SpanA FigD LexA LexF PS
def nmA (i:Nat):List UInt8:=axesL.getD (i - 1) []
theorem name_at:∀ i:Nat,1≤i→i≤12→ ∃ b,axis_Name.f (i:Int)=some b∧b.toList=nmA i:=by
  intro i h1 h2;have h:i=1∨i=2∨i=3∨i=4∨i=5∨i=6∨i=7∨i=8∨i=9∨i=10∨i=11∨i=12:=by omega
  rcases h with rfl | rfl | rfl | rfl | rfl | rfl | rfl | rfl | rfl | rfl | rfl | rfl<;>exact⟨_,rfl,by rw [AB];rfl⟩
theorem l0_at (x:ByteArray) (k i:Nat) (h1:1≤i) (h2:i≤12):axis_Of.l0 (k+1) x (i:Int)=if nmA i=x.toList then some (i:Int)else axis_Of.l0 k x ((i+1:Nat):Int):=by
  obtain⟨b,hb,hl⟩:=name_at i h1 h2;have hw:wrap64 ((i:Int)+1)=((i+1:Nat):Int):=by unfold wrap64;omega
  rw [axis_Of.l0,if_pos (by omega),hb,Ay,hl,hw]
theorem qt21 (x:ByteArray):∀ (L:List (List UInt8)) (i:Nat),1≤i→axesL.drop (i - 1)=L→i+L.length=13→axis_Of.l0 (L.length+1) x (i:Int)=some (if L.contains x.toList then(L.idxOf x.toList:Int)+(i:Int)else 0)
  | [],i,h1,hd,hl=>by
    obtain rfl:i=13:=by simpa using hl
    rw [axis_Of.l0,if_neg (by decide)];rfl
  | N :: L,i,h1,hd,hl=>by
    have hh:axesL[i - 1]?=some N:=by have:=congrArg List.head? hd;rw [List.head?_drop]at this;exact this
    have hN:nmA i=N:=by unfold nmA;rw [List.getD_eq_getElem?_getD,hh];rfl
    have hd':axesL.drop (i+1 - 1)=L:=by rw [show i+1 - 1=(i - 1)+1 by omega,← List.tail_drop,hd];rfl
    rw [AE]at hl;rw [AE,l0_at x _ i h1 (by omega),hN];by_cases he:N=x.toList
    · rw [if_pos he,← he];simp
    · have h2:=qt21 x L (i+1) (by omega) hd' (by omega);rw [if_neg he,h2];have h3:(x.toList == N)=false:=by simp;exact fun h=>he h.symm
      have h4:(N == x.toList)=false:=by simp;exact he
      rw [Bv,h3,Bool.false_or,List.idxOf_cons,h4]
      congr 1
      split
      · simp only [cond_false];push_cast;omega
      · rfl
theorem l0_all (x:ByteArray):axis_Of.l0 13 x 1=some (ql1 x.toList):=by
  have h:=qt21 x axesL 1 (Ag _) rfl rfl;exact h
theorem qr26 (s:List UInt8) (W:World):Calls Am 215 #[Ac (ba s)] W fun e w'=>e= .returned (Aa Ab (ql1 s))∧Below W.heap.size W w':=
  (axis_Of.calls 13 (ba s) (ql1 s) W (by rw [axis_Of.f,l0_all,AB];rfl)).mono fun e w' ⟨h1,h2⟩=>⟨h1,h2.below⟩
end Go.Proofs.YtocdckniokhbbaaGreatDoor.Syn
namespace Go.Proofs.YtocdckniokhbbaaGreatDoor.LexG
open Go.RowKit Go.Shelf YtocdckniokhbbaaGreatDoorW.PrintWords YtocdckniokhbbaaGreatDoorW.PrintLast YtocdckniokhbbaaGreatDoorW.PrintMore CharA CharB CharD CharF SpanA FigA FigC FigD FigG FigI LexA LexF
theorem qa16 (c:UInt8) (w:World):Calls Am 122 #[.int .u8 (c.toNat:Int)] w fun e w'=>e= .returned (Ae (qr1 c))∧w=w':=by
  by_cases h1:48≤c.toNat
  · have d1:decide ((48:Int)≤(c.toNat:Int))=true:=by simp;omega
    by_cases h2:c.toNat≤57
    · have d2:decide ((c.toNat:Int)≤(57:Int))=true:=by simp;omega
      rw [(qo3 c).2 ⟨h1,h2⟩];clear h1 h2;go_enter Tryz.func122,Tryz.ntmps122;go_wp2;go_ret;exact⟨rfl,rfl⟩
    · have d2:decide ((c.toNat:Int)≤(57:Int))=false:=by simp;omega
      rw [show qr1 c=false by cases h:qr1 c with | false=>rfl | true=>exact absurd ((qo3 c).1 h).2 h2];clear h1 h2;go_enter Tryz.func122,Tryz.ntmps122;go_wp2;go_ret;exact⟨rfl,rfl⟩
  · have d1:decide ((48:Int)≤(c.toNat:Int))=false:=by simp;omega
    rw [show qr1 c=false by cases h:qr1 c with | false=>rfl | true=>exact absurd ((qo3 c).1 h).1 h1];clear h1;go_enter Tryz.func122,Tryz.ntmps122;go_wp2;go_ret;exact⟨rfl,rfl⟩
def dgN (s:ByteArray):Nat:=(s.data.toList.takeWhile qr1).length
theorem qk17 (s:ByteArray):dgN s≤s.size:=by unfold dgN;rw [A8];exact(List.takeWhile_sublist _).length_le
theorem qj2 (s:ByteArray) (w:World) (hs:s.size≤1000000000) :
    Calls Am 89 #[Ac s] w fun e w'=>e= .returned (Aa Ab (dgN s:Int))∧w=w':=by
  obtain⟨R,hR⟩:∃ R,dgN s=R:=⟨_,rfl⟩;rw [hR];have H1:=Aside0.mk hR;clear hR;have hlen:s.data.toList.length≤s.size∧s.size≤s.data.toList.length:=by rw [← A8];exact⟨Ag _,Ag _⟩
  go_enter Tryz.func89,Tryz.ntmps89;go_wp2;go_loop [3] (fun i=>∃ k:Nat,i= Aa Ab (k:Int)∧Aside0 (k≤s.size)∧Aside0 ((s.data.toList.take k).all qr1=true)) (fun i=>s.size - (intOf i).toNat)
  case atStart=>exact⟨0,rfl,⟨A6 _⟩,⟨rfl⟩⟩
  case round=>
    obtain⟨k,rfl,HK,HA⟩:=hrel;have hk:=HK.out;by_cases hlt:k<s.size
    · have hlt':k<s.data.toList.length:=by omega
      have hc:=qa16 (s[k]'hlt) w
      cases hd:qr1 (s[k]'hlt)with
      | true=>
        have hd2:=Aside0.mk hd;rw [hd]at hc;clear hd;go_wp2_with fail
        refine hc.mono ?_;rintro e w' ⟨rfl,rfl⟩;go_wp2_with fail
        go_round
        case rel=>exact⟨k+1,by go_num,⟨by omega⟩,⟨qf13 _ _ k hlt' HA.out hd2.out⟩⟩
        case measure=>simp [intOf];omega
      | false=>
        have hst:=qr5 qr1 s.data.toList k (by omega) HA.out (fun _=>hd);rw [hd]at hc;obtain rfl:R=k:=by rw [← H1.out];unfold dgN;rw [hst.1,List.length_take];omega
        clear hd hst H1;go_wp2_with fail
        refine hc.mono ?_;rintro e w' ⟨rfl,rfl⟩;go_wp2_with fail
        go_ret;exact⟨rfl,rfl⟩
    · have hst:=qr5 qr1 s.data.toList k (by omega) HA.out (fun h=>absurd h (by omega));obtain rfl:R=k:=by rw [← H1.out];unfold dgN;rw [hst.1,List.length_take];omega
      clear hst H1;go_wp2_with fail
      go_ret;exact⟨rfl,rfl⟩
theorem ext_len (s:ByteArray) (k:Nat) (hk:k≤s.size):(s.extract k s.size).size=s.size - k:=by simp
theorem qq22 (s:ByteArray) (k:Nat) (hk:k<s.size):BR (s.extract k s.size)=AU (s.data.toList.drop k):=by
  have hsz:=ext_len s k (Ah hk);have h:=Lib.tail_decode s k 0;rw [Nat.add_zero]at h;unfold BR;rw [if_neg (by omega),h];exact(BJ s k).symm
theorem ext_all (s:ByteArray):s.extract 0 s.size=s:=qb2 (by rw [qk1,List.drop_zero,List.take_of_length_le za5])
theorem qf26 (s:ByteArray):s.extract s.size s.size=ByteArray.empty:=qb2 (by rw [qk1,Nat.sub_self,List.take_zero];rfl)
theorem qy10 (s:ByteArray) (h0:0<s.size) (h:(s[0]'h0).toNat<128):BR s=((s[0]'h0).toNat,1):=by
  unfold BR;rw [if_neg (by omega),← BJ,List.drop_zero];have h0':0<s.data.toList.length:=by rw [← A8];exact h0
  have e:s.data.toList=(s[0]'h0) :: s.data.toList.drop 1:=by
    have:=AQ h0';rw [List.drop_zero]at this;exact this
  rw [e];exact Lib.decodeL_ascii _ _ h
theorem qe16 (s:ByteArray) (w:World) (hT:ql7 w) :
    Calls Am 130 #[Ac s] w fun e w'=>e= .returned (.tuple #[.int .i32 (BR s).1,Aa Ab (BR s).2])∧Below w.heap.size w w':=by
  have hs:=Tryz.utf8_decodeRuneInStringSlow s w hT;by_cases h0:0<s.size
  · by_cases h1:(s[0]'h0).toNat<128
    · rw [qy10 s h0 h1];clear hs hT;have d0:s.toList.isEmpty=false:=by rw [AB];cases e:s.data.toList with | nil=>rw [A8,e]at h0;simp at h0 | cons _ _=>rfl
      have d1:decide (((s[0]'h0).toNat:Int)<128)=true:=by simp;omega
      go_enter Tryz.func130,Tryz.ntmps130;go_wp2_with fail
      go_ret2;exact⟨rfl,Ao _ _⟩
    · have d0:s.toList.isEmpty=false:=by rw [AB];cases e:s.data.toList with | nil=>rw [A8,e]at h0;simp at h0 | cons _ _=>rfl
      have d1:decide (((s[0]'h0).toNat:Int)<128)=false:=by simp;omega
      generalize BR s=q at *;clear hT;go_enter Tryz.func130,Tryz.ntmps130;go_wp2_with fail
      refine hs.mono ?_;rintro e w1 ⟨rfl,b1⟩;go_wp2_with fail
      go_ret2;exact⟨rfl,b1⟩
  · have d0:s.toList= []:=by rw [AB];exact List.length_eq_zero_iff.1 za5
    generalize BR s=q at *;clear hT;go_enter Tryz.func130,Tryz.ntmps130;go_wp2_with fail
    refine hs.mono ?_;rintro e w1 ⟨rfl,b1⟩;go_wp2_with fail
    go_ret2;exact⟨rfl,b1⟩
theorem qw16 (f:Nat) (l:List UInt8) (h:l= []∨qv8 ((AU l).1:Int)=false):qa14 f l= []:=by
  cases f with
  | zero=>rfl
  | succ f=>
    simp only [qa14]
    rcases h with h | h
    · rw [if_pos h]
    · rw [if_neg (show ¬ qv8 ((AU l).1:Int)=true by rw [h];simp)]
      split<;>rfl
theorem qf24 (f:Nat) (l:List UInt8) (h0:l≠ []) (h:qv8 ((AU l).1:Int)=true):qa14 (f+1) l=l.take (AU l).2 ++ qa14 f (l.drop (AU l).2):=by
  simp only [qa14];rw [if_neg h0,if_pos h]
theorem qh7 (s:ByteArray) (k:Nat) (hk:k≤s.size):s.extract 0 k=ba (s.data.toList.take k):=qb2 (by rw [qk1,qa1];simp)
theorem qg6 (s:ByteArray) (k:Nat) (hk:k≤s.size):s.extract k s.size=ba (s.data.toList.drop k):=qb2 (by rw [qk1,qa1,List.take_of_length_le (by rw [Bf,← A8];omega)])
theorem qh12 (s:ByteArray) (w:World) (hs:s.size≤1000000000) (hT:ql7 w) :
    Calls Am 93 #[Ac s] w fun e w'=>e= .returned (.tuple #[Ac (ba (qa4 s.data.toList)),Ac (ba (s.data.toList.drop (qa4 s.data.toList).length))])∧Below w.heap.size w w':=by
  obtain⟨R,hR⟩:∃ R,qa4 s.data.toList=R:=⟨_,rfl⟩;rw [hR];have hlen:s.data.toList.length≤s.size∧s.size≤s.data.toList.length:=by rw [← A8];exact⟨Ag _,Ag _⟩
  have H0:Aside0 (s.data.toList.take 0 ++ qa14 s.size (s.data.toList.drop 0)=R):=⟨by rw [List.take_zero,List.drop_zero,← hR];unfold qa4;rw [← A8];rfl⟩;have HT:=Aside0.mk hT;clear hR hT;go_enter Tryz.func93,Tryz.ntmps93;go_wp2_with fail
  go_loopg [4] s.size (fun kq v4 w'=>∃ n:Nat,v4= Aa Ab (n:Int)∧Aside0 (s.data.toList.take n ++ qa14 kq (s.data.toList.drop n)=R)∧Aside0 (n≤s.size)∧Aside0 (s.size≤n+kq)∧Aside0 (Below w.heap.size w w'))
  case atStart=>exact⟨0,rfl,H0,⟨A6 _⟩,⟨by omega⟩,⟨Ao _ _⟩⟩
  case round=>
    obtain⟨n,rfl,HR,HN,HK,HB⟩:=hrel;have hn:=HN.out;clear H0;by_cases hlt:n<s.size
    · obtain⟨k1,rfl⟩:∃ k1,gk=k1+1:=⟨gk - 1,by have:=HK.out;omega⟩;have hd:=qq22 s n hlt;have hne:s.data.toList.drop n≠ []:=fun e=>by have:=congrArg List.length e;rw [Bf]at this;simp at this;omega
      have hwid:=Lib.decodeL_width (s.data.toList.drop n)
      have hpos:1≤(AU (s.data.toList.drop n)).2∧n+(AU (s.data.toList.drop n)).2≤s.size:=by
        have h1:=qp4 s n hlt;have h2:=qn16 s n hlt;rw [← BJ]at h1 h2;exact⟨h1,h2⟩
      have hdc:=qe16 (s.extract n s.size) wr (qz1 HT.out HB.out);rw [hd]at hdc;have hR:=HR.out
      cases hp:qv8 ((AU (s.data.toList.drop n)).1:Int)with
      | true=>
        rw [qf24 k1 _ hne hp,List.drop_drop,← A9]at hR;have et:s.data.toList.take n ++ (s.data.toList.drop n).take (AU (s.data.toList.drop n)).2=s.data.toList.take (n+(AU (s.data.toList.drop n)).2):=by rw [List.take_add]
        rw [et]at hR;have hpc:=fun W=>qx7 ((AU (s.data.toList.drop n)).1:Int) W;rw [hp]at hpc;generalize AU (s.data.toList.drop n)=q at *;obtain⟨q1,q2⟩:=q;simp only at hR hpos hdc hpc;have HR2:=Aside0.mk hR;obtain⟨p1,p2⟩:=hpos;have HP2:=Aside0.mk p2;have HP1:=Aside0.mk p1;clear hR et hp hwid hd hne HR;go_wp2_with fail
        refine hdc.mono ?_;rintro e w1 ⟨rfl,b1⟩;have B1:=Aside0.mk (chain HB.out (Ag _) b1);clear b1 hdc HB;go_wp2_with fail
        refine(hpc _).mono ?_;rintro e w2 ⟨rfl,b2⟩;have B2:=Aside0.mk (chain B1.out (Ag _) b2);clear b2 hpc B1;go_wp2_with fail
        go_roundg k1
        case measure=>omega
        case rel=>exact⟨n+q2,by first | rfl | go_num,HR2,⟨HP2.out⟩,⟨by have:=HK.out;have:=HP1.out;omega⟩,B2⟩
      | false=>
        rw [qw16 (k1+1) _ (.inr hp),List.append_nil]at hR;have e0:R.length=n:=by rw [← hR,List.length_take];omega
        have e1:=qh7 s n hn;have e2:=qg6 s n hn;rw [hR]at e1;have E1:=Aside0.mk e1;have E2:=Aside0.mk e2;have E0:=Aside0.mk e0;have hpc:=fun W=>qx7 ((AU (s.data.toList.drop n)).1:Int) W;rw [hp]at hpc;generalize AU (s.data.toList.drop n)=q at *;obtain⟨q1,q2⟩:=q;simp only at hpos hdc hpc;clear hR hp hwid hd hne HR hpos e1 e2 e0;go_wp2_with fail
        refine hdc.mono ?_;rintro e w1 ⟨rfl,b1⟩;have B1:=Aside0.mk (chain HB.out (Ag _) b1);clear b1 hdc HB;go_wp2_with fail
        refine(hpc _).mono ?_;rintro e w2 ⟨rfl,b2⟩;have B2:=Aside0.mk (chain B1.out (Ag _) b2);clear b2 hpc B1;go_wp2_with fail
        repeat(go_quiet (fail);try go_wp2_with fail)
        go_ret2;exact⟨by rw [E1.out,E2.out,E0.out];rfl,CharB.below_drewN B2.out _⟩
    · obtain rfl:n=s.size:=by omega
      have hR:=HR.out;rw [qw16 gk _ (.inl (List.drop_eq_nil_of_le (by omega))),List.append_nil]at hR;have e0:R.length=s.size:=by rw [← hR,List.length_take];omega
      have e1:=qh7 s s.size (Ag _);have e2:=qg6 s s.size (Ag _);rw [hR]at e1;have e3:s=ba R:=by rw [← e1,ext_all]
      have e4:ByteArray.empty=ba (s.data.toList.drop R.length):=by rw [e0,← e2,qf26]
      have E3:=Aside0.mk e3;have E4:=Aside0.mk e4;clear hR HR e1 e2 e0 e3 e4 HK HN;go_wp2_with fail
      repeat(go_quiet (fail);try go_wp2_with fail)
      go_ret2;refine⟨?_,CharB.below_drewN HB.out _⟩;rw [← E4.out,← E3.out];rfl
theorem qr3 (s:ByteArray) (w:World):Calls Am 43 #[Ac s,.func (.func 44) #[] #[]] w fun e w'=>e= .returned (Ac (ba (s.data.toList.dropWhile spB)))∧Below w.heap.size w w':=by
  have:=Tryz.strings_TrimLeftFunc_runes 44 #[] (enters_of Tryz.func44 zr rfl) sp s w (qo15 w);rw [qh15]at this;exact this
theorem qi17 (s:ByteArray) (p:ByteArray) (w:World):Calls Am 131 #[Ac s,Ac p] w fun e w'=>e= .returned (Ae (p.data.toList.isPrefixOf s.data.toList))∧w=w':=
  (Tryz.strings_HasPrefix s p w).mono fun e w' ⟨h1,h2⟩=>⟨h1,h2.symm⟩
theorem pre_cut (p s:List UInt8) (h:p.isPrefixOf s=true):Lib.trimPrefix s p=s.drop p.length:=by unfold Lib.trimPrefix Lib.hasPrefix;rw [if_pos h]
theorem qo20 (s p r:ByteArray) (hp:p.data.toList.isPrefixOf s.data.toList=true) (hr:ba (s.data.toList.drop p.data.toList.length)=r) (w:World):Calls Am 91 #[Ac s,Ac p] w fun e w'=>e= .returned (.tuple #[Ac r,Ae true])∧w=w':=by
  have:=Tryz.strings_CutPrefix s p w;rw [pre_cut _ _ hp,show Lib.hasPrefix s.data.toList p.data.toList=true from hp]at this;refine this.mono fun e w' ⟨h1,h2⟩=>⟨?_,h2.symm⟩;rw [h1,← hr];rfl
theorem qg14 (s p:ByteArray) (hp:p.data.toList.isPrefixOf s.data.toList=false) (w:World):Calls Am 91 #[Ac s,Ac p] w fun e w'=>e= .returned (.tuple #[Ac s,Ae false])∧w=w':=by
  have:=Tryz.strings_CutPrefix s p w;have e:Lib.trimPrefix s.data.toList p.data.toList=s.data.toList:=by unfold Lib.trimPrefix Lib.hasPrefix;rw [if_neg (by rw [hp];simp)]
  rw [e,show Lib.hasPrefix s.data.toList p.data.toList=false from hp]at this;exact this.mono fun e w' ⟨h1,h2⟩=>⟨h1,h2.symm⟩
theorem qm23 (x:List UInt8):typesL.contains x=(x == [99,111,109,109,101,110,116] || x == [116,101,120,116] || x == [112,114,111,99,101,115,115,105,110,103,45,105,110,115,116,114,117,99,116,105,111,110] || x == [110,111,100,101]):=by
  unfold typesL;simp only [Bv,List.contains_nil,Bool.or_false,Bool.or_assoc]
theorem qu21 (t r:ByteArray) (w:World):Calls Am 94 #[Ac t,Ac r] w fun e w'=>e= .returned (Aa Ab (qv12 t.data.toList r.data.toList))∧Below w.heap.size w w':=by
  have hl:=qr3 r w;have h1:=fun W=>qi17 (ba (r.data.toList.dropWhile spB)) ⟨#[40]⟩ W;have h2:=fun W=>qi17 (ba (r.data.toList.dropWhile spB)) ⟨#[58,58]⟩ W;unfold qv12;rw [qm23,← AB t];rw [qa1,show(⟨#[40]⟩:ByteArray).data.toList= [40]from rfl]at h1;rw [qa1,show(⟨#[58,58]⟩:ByteArray).data.toList= [58,58]from rfl]at h2;generalize ([40]:List UInt8).isPrefixOf (r.data.toList.dropWhile spB)=c1 at *;generalize ([58,58]:List UInt8).isPrefixOf (r.data.toList.dropWhile spB)=c2 at *;generalize ba (r.data.toList.dropWhile spB)=r2 at *
  cases c1 with
  | true=>
    rw [if_pos rfl];obtain⟨q,hq⟩:∃ q,(t.toList == [99,111,109,109,101,110,116] || t.toList == [116,101,120,116] || t.toList == [112,114,111,99,101,115,115,105,110,103,45,105,110,115,116,114,117,99,116,105,111,110] || t.toList == [110,111,100,101])=q:=⟨_,rfl⟩;rw [hq];have HQ:=Aside0.mk hq;clear hq h2
    cases q
    all_goals
      first | rw [if_pos rfl] | rw [if_neg Bool.false_ne_true]
      go_enter Tryz.func94,Tryz.ntmps94;go_wp2_with fail
      refine hl.mono ?_;rintro e w1 ⟨rfl,b1⟩;go_wp2_with fail
      refine(h1 _).mono ?_;rintro e w2 ⟨rfl,rfl⟩;go_wp2_with fail
      all_goals
        go_ret;refine⟨?_,b1⟩
        first | rfl | (exfalso;have:=HQ.out;simp [*]at this;done) | (exfalso;have:=HQ.out;simp_all;done)
  | false=>
    rw [if_neg (by simp)]
    cases c2 with
    | true=>
      rw [if_pos rfl];go_enter Tryz.func94,Tryz.ntmps94;go_wp2_with fail
      refine hl.mono ?_;rintro e w1 ⟨rfl,b1⟩;go_wp2_with fail
      refine(h1 _).mono ?_;rintro e w2 ⟨rfl,rfl⟩;go_wp2_with fail
      refine(h2 _).mono ?_;rintro e w2 ⟨rfl,rfl⟩;go_wp2_with fail
      go_ret;exact⟨rfl,b1⟩
    | false=>
      rw [if_neg (by simp)];go_enter Tryz.func94,Tryz.ntmps94;go_wp2_with fail
      refine hl.mono ?_;rintro e w1 ⟨rfl,b1⟩;go_wp2_with fail
      refine(h1 _).mono ?_;rintro e w2 ⟨rfl,rfl⟩;go_wp2_with fail
      refine(h2 _).mono ?_;rintro e w2 ⟨rfl,rfl⟩;go_wp2_with fail
      go_ret;exact⟨rfl,b1⟩
end Go.Proofs.YtocdckniokhbbaaGreatDoor.LexG
namespace Go.Proofs.YtocdckniokhbbaaGreatDoor.LexH
open Go.RowKit Go.Shelf YtocdckniokhbbaaGreatDoorW.PrintWords YtocdckniokhbbaaGreatDoorW.PrintLast YtocdckniokhbbaaGreatDoorW.PrintMore CharA CharB CharD CharF SpanA FigA FigC FigD FigG FigI LexA LexF LexG
theorem qa10 (c:UInt8):∀ l:List UInt8,Lib.indexByte l c=match qf10 c l with | none=> -1 | some (a,_)=>(a.length:Int)
  | []=>rfl
  | d :: t=>by
    have ih:=qa10 c t;simp only [Lib.indexByte,qf10];by_cases h:d=c
    · rw [if_pos h,if_pos (by first | exact h | (simpa using h))];rfl
    · rw [if_neg h,if_neg (by first | exact h | (simpa using h)),ih]
      cases qf10 c t with
      | none=>simp
      | some q=>
        obtain⟨a,r⟩:=q;have:((a.length:Int) == -1)=false:=by rw [beq_eq_false_iff_ne];omega
        simp [this]
theorem qq21 (s:ByteArray) (c:UInt8) (h:qf10 c s.data.toList=none) (w:World) :
    Calls Am 121 #[Ac s,Ac ⟨#[c]⟩] w fun e w'=>e= .returned (.tuple #[Ac s,Ac ⟨#[]⟩,Ae false])∧ ∃ n,w'=w.drewN n:=by
  have hi:=fun W=>Tryz.stringslite_Index_one s c W;rw [qa10,h]at hi;simp only at hi;clear h;go_enter Tryz.func121,Tryz.ntmps121;go_wp2_with fail
  refine(hi _).mono ?_;rintro e w1 ⟨rfl,rfl⟩;go_wp2_with fail
  go_ret3;exact⟨rfl,0,rfl⟩
theorem qp21 (s:ByteArray) (c:UInt8) (a r:List UInt8) (h:qf10 c s.data.toList=some (a,r)) (hs:s.size≤1000000000) (w:World) :
    Calls Am 121 #[Ac s,Ac ⟨#[c]⟩] w fun e w'=>e= .returned (.tuple #[Ac (ba a),Ac (ba r),Ae true])∧ ∃ n,w'=w.drewN n:=by
  have hi:=fun W=>Tryz.stringslite_Index_one s c W;rw [qa10,h]at hi;simp only at hi;have hl:=(qj7 c _ a r h).1;obtain⟨i,hI⟩:∃ i,a.length=i:=⟨_,rfl⟩;have hlen:s.size=i+1+r.length:=by rw [A8,hl,Aq,AE];omega
  have e1:s.extract 0 i=ba a:=by rw [qh7 s i (by omega),hl,← hI,List.take_left]
  have e2:s.extract (i+1) s.size=ba r:=by rw [qg6 s (i+1) (by omega),hl,← hI];congr 1;simp
  rw [hI]at hi;have c1:(0:Int)≤(i:Int):=by omega
  have c2:(i:Int)≤(s.size:Int):=by omega
  have c3:(0:Int)≤(i:Int)+1:=by omega
  have c4:(i:Int)+1≤(s.size:Int):=by omega
  have E1:=Aside0.mk e1;have E2:=Aside0.mk e2;have ez:(⟨#[c]⟩:ByteArray).size=1:=rfl;clear h hl hI hlen e1 e2;go_enter Tryz.func121,Tryz.ntmps121;go_wp2_with fail
  refine(hi _).mono ?_;rintro e w1 ⟨rfl,rfl⟩;go_wp2_with fail
  repeat(go_quiet (fail);try go_wp2_with fail)
  go_ret3;exact⟨by rw [E1.out,E2.out];rfl,_,rfl⟩
theorem qk26 (s:ByteArray) (c:UInt8) (h:qf10 c s.data.toList=none) (w:World) :
    Calls Am 87 #[Ac s,Ac ⟨#[c]⟩] w fun e w'=>e= .returned (.tuple #[Ac s,Ac ⟨#[]⟩,Ae false])∧ ∃ n,w'=w.drewN n:=by
  have hi:=fun W=>qq21 s c h W;clear h;go_enter Tryz.func87,Tryz.ntmps87;go_wp2_with fail
  refine(hi _).mono ?_;rintro e w1 ⟨rfl,n,rfl⟩;go_wp2_with fail
  go_ret3;exact⟨rfl,n,rfl⟩
theorem qj26 (s:ByteArray) (c:UInt8) (a r:List UInt8) (h:qf10 c s.data.toList=some (a,r)) (hs:s.size≤1000000000) (w:World) :
    Calls Am 87 #[Ac s,Ac ⟨#[c]⟩] w fun e w'=>e= .returned (.tuple #[Ac (ba a),Ac (ba r),Ae true])∧ ∃ n,w'=w.drewN n:=by
  have hi:=fun W=>qp21 s c a r h hs W;clear h;go_enter Tryz.func87,Tryz.ntmps87;go_wp2_with fail
  refine(hi _).mono ?_;rintro e w1 ⟨rfl,n,rfl⟩;go_wp2_with fail
  go_ret3;exact⟨rfl,n,rfl⟩
theorem u8i (a:UInt8) (n:Nat) (hn:n<256):((a.toNat:Int)=(n:Int))↔a=UInt8.ofNat n:=by
  constructor
  · intro h;apply UInt8.toNat_inj.1;rw [UInt8.toNat_ofNat'];omega
  · rintro rfl;rw [UInt8.toNat_ofNat'];omega
structure Head (s:ByteArray) (c:UInt8) (t:ByteArray):Prop where
  pos:0<s.size
  at0:s[0]'pos=c
  list:s.data.toList=c :: t.data.toList
  first:s.extract 0 1=⟨#[c]⟩
  rest:s.extract 1 s.size=t
  size:s.size=t.size+1
theorem qy5 (c:UInt8) (t:List UInt8):Head (ba (c :: t)) c (ba t):=by
  have hp:0<(ba (c :: t)).size:=by rw [qj1];simp
  refine⟨hp,rfl,rfl,?_,?_,?_⟩
  · rw [qh7 _ 1 (by rw [qj1];simp)];rfl
  · rw [qg6 _ 1 (by rw [qj1];simp)];rfl
  · rw [qj1,qj1];rfl
theorem qp18 (b B:Nat) (s t:ByteArray) (c:UInt8) (l:List Wd) (w:World) (h:LB b B s l false w) (hd:Head s c t) (hc:¬ (c=34∨c=39)) :
    Calls Am 45 #[qn1 b] w fun e w'=>e= .returned (Ae false)∧w=w':=by
  obtain⟨v,h1,_⟩:=h;have c0:w.cell? ⟨b,0,none⟩=some (Ac s):=by rw [qu h1];rfl
  have hp:=hd.pos;have q1:(((s[0]'hp).toNat:Int) !=34)=true:=by rw [hd.at0,bne_iff_ne];intro q;exact hc (.inl ((u8i c 34 (by omega)).1 q))
  have q2:(((s[0]'hp).toNat:Int) !=39)=true:=by rw [hd.at0,bne_iff_ne];intro q;exact hc (.inr ((u8i c 39 (by omega)).1 q))
  clear hd h1 hc;unfold qn1;go_enter Tryz.func45,Tryz.ntmps45;go_wp2_with fail
  go_ret;exact⟨rfl,rfl⟩
theorem qm14 (b B:Nat) (s t:ByteArray) (c:UInt8) (l:List Wd) (w:World) (h:LB b B s l false w) (hb:b<B) (hd:Head s c t) (hc:c=34∨c=39) (hq:qf10 c t.data.toList=none) :
    Calls Am 45 #[qn1 b] w fun e w'=>e= .returned (Ae true)∧LB b B s l true w'∧Fr b B w w':=by
  have hf:=fun n=>qs3 b B s l (w.drewN n) (h.drewN n) hb;have hcut:=fun W=>qk26 t c hq W;have HF:=Aside0.mk (Fr.refl b B w);obtain⟨v,h1,_⟩:=h;have c0:w.cell? ⟨b,0,none⟩=some (Ac s):=by rw [qu h1];rfl
  have hp:=hd.pos;have x1:=hd.first;have x2:=hd.rest;have x3:(1:Int)≤(s.size:Int):=by omega
  have q1:(((s[0]'hp).toNat:Int) !=34)= !decide (c=34):=by rw [hd.at0];rcases hc with rfl | rfl<;>rfl
  have q2:(((s[0]'hp).toNat:Int) !=39)= !decide (c=39):=by rw [hd.at0];rcases hc with rfl | rfl<;>rfl
  clear hd h1 hq;unfold qn1 at hf ⊢
  rcases hc with rfl | rfl
  all_goals
    simp at q1 q2;go_enter Tryz.func45,Tryz.ntmps45;go_wp2_with fail
    go_quiet ((go_at_call 87;exact Calls.quiet_of (hcut _)));go_wp2_with fail
    refine(hf _).mono ?_;rintro e w2 ⟨rfl,h2,f2⟩;go_wp2_with fail
    go_ret;exact⟨rfl,h2,(HF.out.drewN _).trans f2⟩
theorem qz15 (b B:Nat) (s t:ByteArray) (c:UInt8) (a r:List UInt8) (l:List Wd) (w:World) (h:LB b B s l false w) (hb:b<B) (hB:B≤w.heap.size) (hl:l.length≤1000) (hs:s.size≤1000000000) (hd:Head s c t) (hc:c=34∨c=39) (hq:qf10 c t.data.toList=some (a,r)) :
    Calls Am 45 #[qn1 b] w fun e w'=>e= .returned (Ae true)∧LB b B (ba r) (l ++ [(8,a,0,0)]) false w'∧Fr b B w w':=by
  have hf:=fun n=>qa6 b B s l 8 (ba a) (ba r) (w.drewN n) (h.drewN n) hb hB hl;have hsz:=hd.size;have hcut:=fun W=>qj26 t c a r hq (by omega) W;have HF:=Aside0.mk (Fr.refl b B w);obtain⟨v,h1,_⟩:=h;have c0:w.cell? ⟨b,0,none⟩=some (Ac s):=by rw [qu h1];rfl
  have hp:=hd.pos;have x1:=hd.first;have x2:=hd.rest;have x3:(1:Int)≤(s.size:Int):=by omega
  have q1:(((s[0]'hp).toNat:Int) !=34)= !decide (c=34):=by rw [hd.at0];rcases hc with rfl | rfl<;>rfl
  have q2:(((s[0]'hp).toNat:Int) !=39)= !decide (c=39):=by rw [hd.at0];rcases hc with rfl | rfl<;>rfl
  rw [qa1]at hf;clear hd h1 hq hsz;unfold qn1 at hf ⊢
  rcases hc with rfl | rfl
  all_goals
    simp at q1 q2;go_enter Tryz.func45,Tryz.ntmps45;go_wp2_with fail
    go_quiet ((go_at_call 87;exact Calls.quiet_of (hcut _)));go_wp2_with fail
    refine(hf _).mono ?_;rintro e w2 ⟨rfl,h2,f2⟩;go_wp2_with fail
    go_ret;exact⟨rfl,h2,(HF.out.drewN _).trans f2⟩
theorem star_no (b B:Nat) (s t:ByteArray) (c:UInt8) (l:List Wd) (w:World) (h:LB b B s l false w) (hd:Head s c t) (hc:¬ c=42) :
    Calls Am 48 #[qn1 b] w fun e w'=>e= .returned (Ae false)∧w=w':=by
  obtain⟨v,h1,_⟩:=h;have c0:w.cell? ⟨b,0,none⟩=some (Ac s):=by rw [qu h1];rfl
  have hp:=hd.pos;have q1:(((s[0]'hp).toNat:Int) !=42)=true:=by rw [hd.at0,bne_iff_ne];intro q;exact hc ((u8i c 42 (by omega)).1 q)
  clear hd h1 hc;unfold qn1;go_enter Tryz.func48,Tryz.ntmps48;go_wp2_with fail
  go_ret;exact⟨rfl,rfl⟩
theorem qv23 (b B:Nat) (s t:ByteArray) (c:UInt8) (l:List Wd) (w:World) (h:LB b B s l false w) (hb:b<B) (hB:B≤w.heap.size) (hl:l.length≤1000) (hd:Head s c t) (hc:c=42) :
    Calls Am 48 #[qn1 b] w fun e w'=>e= .returned (Ae true)∧LB b B t (l ++ [(if qi2 l=true then 5 else 3,[42],0,0)]) false w'∧Fr b B w w':=by
  have he:=qs14 b B s l w h hl;have hf:∀ k W,Below w.heap.size w W→_:=fun k W hW=>qa6 b B s l k ⟨#[42]⟩ t W (h.below hW) hb (Nat.le_trans hB hW.size) hl;have hlt:=h.lt;have HF:∀ W,Below w.heap.size w W→Fr b B w W:=fun W hW=>Fr.of_below hW hB (Ah hb);have c1:∀ W,Below w.heap.size w W→W.cell? ⟨b,0,none⟩=some (Ac s):=fun W hW=>by obtain⟨v,h1,_⟩:=h.below hW;rw [qu h1];rfl
  have c0:=c1 w (Ao _ _);have hp:=hd.pos;have x2:=hd.rest;have x3:(1:Int)≤(s.size:Int):=by omega
  have q1:(((s[0]'hp).toNat:Int) !=42)=false:=by rw [hd.at0,hc];rfl
  have HE:=Aside0.mk hf;have HF2:=Aside0.mk HF;have HC:=Aside0.mk c1;clear hd h hc hf HF c1;unfold qn1 at he HE ⊢
  cases hq:qi2 l with
  | true=>
    rw [hq]at he;clear hq;go_enter Tryz.func48,Tryz.ntmps48;go_wp2_with fail
    refine he.mono ?_;rintro e w1 ⟨rfl,b1⟩;have c2:=HC.out _ b1;have hs:=HE.out 5 _ b1;have F1:=Aside0.mk (HF2.out _ b1);clear b1;go_wp2_with fail
    refine hs.mono ?_;rintro e w2 ⟨rfl,h2,f2⟩;go_wp2_with fail
    go_ret;exact⟨rfl,h2,F1.out.trans f2⟩
  | false=>
    rw [hq]at he;clear hq;go_enter Tryz.func48,Tryz.ntmps48;go_wp2_with fail
    refine he.mono ?_;rintro e w1 ⟨rfl,b1⟩;have c2:=HC.out _ b1;have hs:=HE.out 3 _ b1;have F1:=Aside0.mk (HF2.out _ b1);clear b1;go_wp2_with fail
    refine hs.mono ?_;rintro e w2 ⟨rfl,h2,f2⟩;go_wp2_with fail
    go_ret;exact⟨rfl,h2,F1.out.trans f2⟩
end Go.Proofs.YtocdckniokhbbaaGreatDoor.LexH
namespace Go.Proofs.YtocdckniokhbbaaGreatDoor.LexI
open Go.RowKit Go.Shelf YtocdckniokhbbaaGreatDoorW.PrintWords YtocdckniokhbbaaGreatDoorW.PrintLast YtocdckniokhbbaaGreatDoorW.PrintMore CharA CharB CharD CharF SpanA FigA FigC FigD FigG FigI LexA LexF LexG LexH
theorem qu11 (p:List UInt8) (rest:List (List UInt8)) (s:List UInt8):qg1 (p :: rest) s=if p.isPrefixOf s=true then some p else qg1 rest s:=by
  unfold qg1;rw [List.find?_cons]
  cases p.isPrefixOf s<;>rfl
theorem qv9 {p:List UInt8} {rest:List (List UInt8)} {s:List UInt8} (h:qg1 (p :: rest) s=none):p.isPrefixOf s=false∧qg1 rest s=none:=by
  rw [qu11]at h
  cases hp:p.isPrefixOf s with
  | true=>rw [hp]at h;cases h
  | false=>rw [hp]at h;exact⟨rfl,h⟩
theorem qs13 {p:List UInt8} {rest:List (List UInt8)} {s m:List UInt8} (h:qg1 (p :: rest) s=some m):(p.isPrefixOf s=true∧m=p)∨(p.isPrefixOf s=false∧qg1 rest s=some m):=by
  rw [qu11]at h
  cases hp:p.isPrefixOf s with
  | true=>rw [hp]at h;exact .inl ⟨rfl,(Az.inj h).symm⟩
  | false=>rw [hp]at h;exact .inr ⟨rfl,h⟩
theorem qd10 (l:List (List UInt8)) (k:Nat) (h:k<l.length):l.drop k=l.getD k [] :: l.drop (k+1):=by
  rw [AQ h];simp [List.getD,AH h]
theorem ix9 (k:Nat) (hk:k<9) (w:World):(Instr.index 122 (.agg #[Ac ⟨#[46,46]⟩,Ac ⟨#[58,58]⟩,Ac ⟨#[40]⟩,Ac ⟨#[41]⟩,Ac ⟨#[91]⟩,Ac ⟨#[93]⟩,Ac ⟨#[46]⟩,Ac ⟨#[64]⟩,Ac ⟨#[44]⟩]) (Aa Ab (k:Int))).run Am w= .ok (Ac (ba (marksL.getD k []))) w:=by
  rcases(show k=0∨k=1∨k=2∨k=3∨k=4∨k=5∨k=6∨k=7∨k=8 by omega)with rfl | rfl | rfl | rfl | rfl | rfl | rfl | rfl | rfl
  all_goals kernel_rfl
theorem ix11 (k:Nat) (hk:k<11) (w:World):(Instr.index 125 (.agg #[Ac ⟨#[47,47]⟩,Ac ⟨#[33,61]⟩,Ac ⟨#[60,61]⟩,Ac ⟨#[62,61]⟩,Ac ⟨#[47]⟩,Ac ⟨#[124]⟩,Ac ⟨#[43]⟩,Ac ⟨#[45]⟩,Ac ⟨#[61]⟩,Ac ⟨#[60]⟩,Ac ⟨#[62]⟩]) (Aa Ab (k:Int))).run Am w= .ok (Ac (ba (opsL.getD k []))) w:=by
  rcases(show k=0∨k=1∨k=2∨k=3∨k=4∨k=5∨k=6∨k=7∨k=8∨k=9∨k=10 by omega)with rfl | rfl | rfl | rfl | rfl | rfl | rfl | rfl | rfl | rfl | rfl
  all_goals kernel_rfl
theorem qi25 (b B:Nat) (s:ByteArray) (m:List UInt8) (l:List Wd) (w:World) (h:LB b B s l false w) (hb:b<B) (hB:B≤w.heap.size) (hl:l.length≤1000) (hm:qg1 marksL s.data.toList=some m) :
    Calls Am 47 #[qn1 b] w fun e w'=>e= .returned (Ae true)∧LB b B (ba (s.data.toList.drop m.length)) (l ++ [(1,m,0,0)]) false w'∧Fr b B w w':=by
  have HS:Aside0 (∀ t r,Calls Am 88 #[.pointer (some ⟨b,0,none⟩),Aa Ab 1,Ac t,Ac r] w fun e w'=>e= .returned (Ae true)∧LB b B r (l ++ [(1,t.data.toList,0,0)]) false w'∧Fr b B w w'):=⟨fun t r=>qa6 b B s l 1 t r w h hb hB hl⟩;obtain⟨v,h1,_⟩:=h;have c0:w.cell? ⟨b,0,none⟩=some (Ac s):=by rw [qu h1];rfl
  clear h1;have HmarksL:Aside0 (0≤9∧qg1 (marksL.drop 0) s.data.toList=some m):=⟨by omega,hm⟩;clear hm hl;unfold qn1;go_enter Tryz.func47,Tryz.ntmps47;go_wp2_with fail
  go_loop [12] (fun i=>∃ k:Nat,i= Aa Ab (k:Int)∧Aside0 (k≤9∧qg1 (marksL.drop k) s.data.toList=some m)) (fun i=>9 - (intOf i).toNat)
  case atStart=>exact⟨0,rfl,HmarksL⟩
  case round=>
    obtain⟨k,rfl,H⟩:=hrel;have hk:=H.out.1;have hF:=H.out.2;clear H;by_cases hlt:k<9
    · rw [qd10 marksL k hlt]at hF;have hx:=ix9 k hlt w
      rcases qs13 hF with ⟨hp,hm⟩ | ⟨hp,hn⟩
      · rw [← hm]at hp hx;have hc:=qo20 s (ba m) (ba (s.data.toList.drop m.length)) hp rfl w;have hS:=HS.out (ba m) (ba (s.data.toList.drop m.length));rw [qa1]at hS;clear hF hp HS hm;go_wp2_with fail
        refine hc.mono ?_;rintro e w1 ⟨rfl,rfl⟩;go_wp2_with fail
        refine hS.mono ?_;rintro e w2 ⟨rfl,h2,f2⟩;go_wp2_with fail
        go_ret;exact⟨rfl,h2,f2⟩
      · have HN:=Aside0.mk hn;clear hF hn;have hc:=qg14 s (ba (marksL.getD k [])) hp w;clear hp;generalize ba (marksL.getD k [])=p at *;go_wp2_with fail
        refine hc.mono ?_;rintro e w1 ⟨rfl,rfl⟩;go_wp2_with fail
        go_round
        case rel=>exact⟨k+1,by go_num,⟨by omega,HN.out⟩⟩
        case measure=>simp [intOf];omega
    · obtain rfl:k=9:=by omega
      cases hF
theorem qh25 (b B:Nat) (s:ByteArray) (m:List UInt8) (l:List Wd) (w:World) (h:LB b B s l false w) (hb:b<B) (hB:B≤w.heap.size) (hl:l.length≤1000) (h0:qg1 marksL s.data.toList=none) (hm:qg1 opsL s.data.toList=some m) :
    Calls Am 47 #[qn1 b] w fun e w'=>e= .returned (Ae true)∧LB b B (ba (s.data.toList.drop m.length)) (l ++ [(5,m,0,0)]) false w'∧Fr b B w w':=by
  have HS:Aside0 (∀ t r,Calls Am 88 #[.pointer (some ⟨b,0,none⟩),Aa Ab 5,Ac t,Ac r] w fun e w'=>e= .returned (Ae true)∧LB b B r (l ++ [(5,t.data.toList,0,0)]) false w'∧Fr b B w w'):=⟨fun t r=>qa6 b B s l 5 t r w h hb hB hl⟩;obtain⟨v,h1,_⟩:=h;have c0:w.cell? ⟨b,0,none⟩=some (Ac s):=by rw [qu h1];rfl
  clear h1;have HmarksL:Aside0 (0≤9∧qg1 (marksL.drop 0) s.data.toList=none):=⟨by omega,h0⟩;have HopsL:Aside0 (0≤11∧qg1 (opsL.drop 0) s.data.toList=some m):=⟨by omega,hm⟩;clear hm h0 hl;unfold qn1;go_enter Tryz.func47,Tryz.ntmps47;go_wp2_with fail
  go_loop [12] (fun i=>∃ k:Nat,i= Aa Ab (k:Int)∧Aside0 (k≤9∧qg1 (marksL.drop k) s.data.toList=none)) (fun i=>9 - (intOf i).toNat)
  case atStart=>exact⟨0,rfl,HmarksL⟩
  case round=>
    obtain⟨k,rfl,H⟩:=hrel;have hk:=H.out.1;have hF:=H.out.2;clear H;by_cases hlt:k<9
    · rw [qd10 marksL k hlt]at hF;have hx:=ix9 k hlt w;obtain⟨hp,hn⟩:=qv9 hF;have HN:=Aside0.mk hn;clear hF hn;have hc:=qg14 s (ba (marksL.getD k [])) hp w;clear hp;generalize ba (marksL.getD k [])=p at *;go_wp2_with fail
      refine hc.mono ?_;rintro e w1 ⟨rfl,rfl⟩;go_wp2_with fail
      go_round
      case rel=>exact⟨k+1,by go_num,⟨by omega,HN.out⟩⟩
      case measure=>simp [intOf];omega
    · obtain rfl:k=9:=by omega
      clear hF hlt;go_wp2_with fail
      go_loop [31] (fun i=>∃ k:Nat,i= Aa Ab (k:Int)∧Aside0 (k≤11∧qg1 (opsL.drop k) s.data.toList=some m)) (fun i=>11 - (intOf i).toNat)
      case atStart=>exact⟨0,rfl,HopsL⟩
      case round=>
        obtain⟨k,rfl,H⟩:=hrel;have hk:=H.out.1;have hF:=H.out.2;clear H;by_cases hlt:k<11
        · rw [qd10 opsL k hlt]at hF;have hx:=ix11 k hlt w
          rcases qs13 hF with ⟨hp,hm⟩ | ⟨hp,hn⟩
          · rw [← hm]at hp hx;have hc:=qo20 s (ba m) (ba (s.data.toList.drop m.length)) hp rfl w;have hS:=HS.out (ba m) (ba (s.data.toList.drop m.length));rw [qa1]at hS;clear hF hp HS hm;go_wp2_with fail
            refine hc.mono ?_;rintro e w1 ⟨rfl,rfl⟩;go_wp2_with fail
            refine hS.mono ?_;rintro e w2 ⟨rfl,h2,f2⟩;go_wp2_with fail
            go_ret;exact⟨rfl,h2,f2⟩
          · have HN:=Aside0.mk hn;clear hF hn;have hc:=qg14 s (ba (opsL.getD k [])) hp w;clear hp;generalize ba (opsL.getD k [])=p at *;go_wp2_with fail
            refine hc.mono ?_;rintro e w1 ⟨rfl,rfl⟩;go_wp2_with fail
            go_round
            case rel=>exact⟨k+1,by go_num,⟨by omega,HN.out⟩⟩
            case measure=>simp [intOf];omega
        · obtain rfl:k=11:=by omega
          cases hF
theorem mark_no (b B:Nat) (s:ByteArray) (l:List Wd) (w:World) (h:LB b B s l false w) (h0:qg1 marksL s.data.toList=none) (hm:qg1 opsL s.data.toList=none) :
    Calls Am 47 #[qn1 b] w fun e w'=>e= .returned (Ae false)∧w=w':=by
  obtain⟨v,h1,_⟩:=h;have c0:w.cell? ⟨b,0,none⟩=some (Ac s):=by rw [qu h1];rfl
  clear h1;have HmarksL:Aside0 (0≤9∧qg1 (marksL.drop 0) s.data.toList=none):=⟨by omega,h0⟩;have HopsL:Aside0 (0≤11∧qg1 (opsL.drop 0) s.data.toList=none):=⟨by omega,hm⟩;clear hm h0;unfold qn1;go_enter Tryz.func47,Tryz.ntmps47;go_wp2_with fail
  go_loop [12] (fun i=>∃ k:Nat,i= Aa Ab (k:Int)∧Aside0 (k≤9∧qg1 (marksL.drop k) s.data.toList=none)) (fun i=>9 - (intOf i).toNat)
  case atStart=>exact⟨0,rfl,HmarksL⟩
  case round=>
    obtain⟨k,rfl,H⟩:=hrel;have hk:=H.out.1;have hF:=H.out.2;clear H;by_cases hlt:k<9
    · rw [qd10 marksL k hlt]at hF;have hx:=ix9 k hlt w;obtain⟨hp,hn⟩:=qv9 hF;have HN:=Aside0.mk hn;clear hF hn;have hc:=qg14 s (ba (marksL.getD k [])) hp w;clear hp;generalize ba (marksL.getD k [])=p at *;go_wp2_with fail
      refine hc.mono ?_;rintro e w1 ⟨rfl,rfl⟩;go_wp2_with fail
      go_round
      case rel=>exact⟨k+1,by go_num,⟨by omega,HN.out⟩⟩
      case measure=>simp [intOf];omega
    · obtain rfl:k=9:=by omega
      clear hF hlt;go_wp2_with fail
      go_loop [31] (fun i=>∃ k:Nat,i= Aa Ab (k:Int)∧Aside0 (k≤11∧qg1 (opsL.drop k) s.data.toList=none)) (fun i=>11 - (intOf i).toNat)
      case atStart=>exact⟨0,rfl,HopsL⟩
      case round=>
        obtain⟨k,rfl,H⟩:=hrel;have hk:=H.out.1;have hF:=H.out.2;clear H;by_cases hlt:k<11
        · rw [qd10 opsL k hlt]at hF;have hx:=ix11 k hlt w;obtain⟨hp,hn⟩:=qv9 hF;have HN:=Aside0.mk hn;clear hF hn;have hc:=qg14 s (ba (opsL.getD k [])) hp w;clear hp;generalize ba (opsL.getD k [])=p at *;go_wp2_with fail
          refine hc.mono ?_;rintro e w1 ⟨rfl,rfl⟩;go_wp2_with fail
          go_round
          case rel=>exact⟨k+1,by go_num,⟨by omega,HN.out⟩⟩
          case measure=>simp [intOf];omega
        · obtain rfl:k=11:=by omega
          clear hF hlt;go_wp2_with fail
          go_ret;exact⟨rfl,rfl⟩
end Go.Proofs.YtocdckniokhbbaaGreatDoor.LexI
namespace Go.Proofs.YtocdckniokhbbaaGreatDoor.LexJ
open Go.RowKit Go.Shelf YtocdckniokhbbaaGreatDoorW.PrintWords YtocdckniokhbbaaGreatDoorW.PrintLast YtocdckniokhbbaaGreatDoorW.PrintMore CharA CharB CharD CharF SpanA FigA FigC FigD FigG FigI LexA LexF LexG LexH
theorem qe15 (b B:Nat) (s t:ByteArray) (c:UInt8) (l:List Wd) (w:World) (h:LB b B s l false w) (hd:Head s c t) (hc:¬ c=36) :
    Calls Am 49 #[qn1 b] w fun e w'=>e= .returned (Ae false)∧w=w':=by
  obtain⟨v,h1,_⟩:=h;have c0:w.cell? ⟨b,0,none⟩=some (Ac s):=by rw [qu h1];rfl
  have hp:=hd.pos;have q1:(((s[0]'hp).toNat:Int) !=36)=true:=by rw [hd.at0,bne_iff_ne];intro q;exact hc ((u8i c 36 (by omega)).1 q)
  clear hd h1 hc;unfold qn1;go_enter Tryz.func49,Tryz.ntmps49;go_wp2_with fail
  go_ret;exact⟨rfl,rfl⟩
theorem qj13 (b B:Nat) (s t:ByteArray) (c:UInt8) (l:List Wd) (w:World) (h:LB b B s l false w) (hb:b<B) (hB:B≤w.heap.size) (hl:l.length≤1000) (hs:s.size≤1000000000) (hT:ql7 w) (hd:Head s c t) (hc:c=36) :
    Calls Am 49 #[qn1 b] w fun e w'=>e= .returned (Ae true)∧(if qc8 (ba (qa4 t.data.toList))=true then LB b B (ba (t.data.toList.drop (qa4 t.data.toList).length)) (l ++ [(10,qa4 t.data.toList,0,0)]) false w' else LB b B s l true w')∧Fr b B w w':=by
  have hsz:=hd.size;have hr:=qh12 t w (by omega) hT;have hn:∀ W,Below w.heap.size w W→_:=fun W hW=>qt11 (ba (qa4 t.data.toList)) W (qz1 hT hW);have hf:∀ W,Below w.heap.size w W→_:=fun W hW=>qs3 b B s l W (h.below hW) hb;have hy:∀ r W,Below w.heap.size w W→_:=fun r W hW=>qa6 b B s l 10 (ba (qa4 t.data.toList)) r W (h.below hW) hb (Nat.le_trans hB hW.size) hl;rw [qa1]at hy;have HF2:Aside0 (∀ W,Below w.heap.size w W→Fr b B w W):=⟨fun W hW=>Fr.of_below hW hB (Ah hb)⟩;have c0:w.cell? ⟨b,0,none⟩=some (Ac s):=by obtain⟨v,h1,_⟩:=h;rw [qu h1];rfl
  have hp:=hd.pos;have x2:=hd.rest;have x3:(1:Int)≤(s.size:Int):=by omega
  have q1:(((s[0]'hp).toNat:Int) !=36)=false:=by rw [hd.at0,hc];rfl
  clear hd h hc hsz hT;generalize qa4 t.data.toList=R at *;generalize ba (t.data.toList.drop R.length)=r at *;have HN:=Aside0.mk hn;have HY:=Aside0.mk (hy r);have HL:=Aside0.mk hf;clear hn hy hf;unfold qn1 at HY HL ⊢
  cases hq:qc8 (ba R)with
  | true=>
    rw [hq]at HN;simp only [if_true];clear hq HL;go_enter Tryz.func49,Tryz.ntmps49;go_wp2_with fail
    refine hr.mono ?_;rintro e w1 ⟨rfl,b1⟩;have hN:=HN.out _ b1;have B1:=Aside0.mk b1;clear b1;go_wp2_with fail
    refine hN.mono ?_;rintro e w2 ⟨rfl,b2⟩;have b3:=chain B1.out (Ag _) b2;have hS:=HY.out _ b3;have F1:=Aside0.mk (HF2.out _ b3);clear b2 b3;go_wp2_with fail
    refine hS.mono ?_;rintro e w3 ⟨rfl,h2,f2⟩;go_wp2_with fail
    go_ret;exact⟨rfl,h2,F1.out.trans f2⟩
  | false=>
    rw [hq]at HN;simp only [AR,if_false];clear hq HY;go_enter Tryz.func49,Tryz.ntmps49;go_wp2_with fail
    refine hr.mono ?_;rintro e w1 ⟨rfl,b1⟩;have hN:=HN.out _ b1;have B1:=Aside0.mk b1;clear b1;go_wp2_with fail
    refine hN.mono ?_;rintro e w2 ⟨rfl,b2⟩;have b3:=chain B1.out (Ag _) b2;have hS:=HL.out _ b3;have F1:=Aside0.mk (HF2.out _ b3);clear b2 b3;go_wp2_with fail
    refine hS.mono ?_;rintro e w3 ⟨rfl,h2,f2⟩;go_wp2_with fail
    go_ret;exact⟨rfl,h2,F1.out.trans f2⟩
theorem four_eq (x:List UInt8):fourL.contains x=(x == [97,110,100] || x == [111,114] || x == [109,111,100] || x == [100,105,118]):=by
  unfold fourL;simp only [Bv,List.contains_nil,Bool.or_false,Bool.or_assoc]
theorem name_no (b B:Nat) (s:ByteArray) (l:List Wd) (w:World) (h:LB b B s l false w) (hs:s.size≤1000000000) (hT:ql7 w) (hr0:qa4 s.data.toList= []) :
    Calls Am 50 #[qn1 b] w fun e w'=>e= .returned (Ae false)∧Below w.heap.size w w':=by
  have hr:=qh12 s w hs hT;rw [hr0]at hr;have c0:w.cell? ⟨b,0,none⟩=some (Ac s):=by obtain⟨v,h1,_⟩:=h;rw [qu h1];rfl
  have e0:(ba []).toList= []:=by rw [AB];rfl
  generalize ba (s.data.toList.drop (List.length ([]:List UInt8)))=r at *;generalize ba []=z at *;clear h hT hr0;unfold qn1;go_enter Tryz.func50,Tryz.ntmps50;go_wp2_with fail
  refine hr.mono ?_;rintro e w1 ⟨rfl,b1⟩;go_wp2_with fail
  go_ret;exact⟨rfl,b1⟩
def qi21 (b B:Nat) (s:ByteArray) (l:List Wd) (R r:List UInt8) (w':World):Prop:=
  if qc8 (ba R)=true then(if qi2 l=true then(if fourL.contains R=true then LB b B (ba r) (l ++ [(5,R,0,0)]) false w' else LB b B s l true w')else LB b B (ba r) (l ++ [(qv12 R r,R,0,0)]) false w')else LB b B s l true w'
theorem qb25 (b B:Nat) (s:ByteArray) (l:List Wd) (w:World) (h:LB b B s l false w) (hb:b<B) (hB:B≤w.heap.size) (hl:l.length≤1000) (hs:s.size≤1000000000) (hT:ql7 w) (hr0:qa4 s.data.toList≠ []) :
    Calls Am 50 #[qn1 b] w fun e w'=>e= .returned (Ae true)∧qi21 b B s l (qa4 s.data.toList) (s.data.toList.drop (qa4 s.data.toList).length) w'∧Fr b B w w':=by
  have hr:=qh12 s w hs hT;have hn:∀ W,Below w.heap.size w W→_:=fun W hW=>qt11 (ba (qa4 s.data.toList)) W (qz1 hT hW);have hf:∀ W,Below w.heap.size w W→_:=fun W hW=>qs3 b B s l W (h.below hW) hb;have he:∀ W,Below w.heap.size w W→_:=fun W hW=>qs14 b B s l W (h.below hW) hl;have hk:=fun W=>qu21 (ba (qa4 s.data.toList)) (ba (s.data.toList.drop (qa4 s.data.toList).length)) W;have hy:∀ k r W,Below w.heap.size w W→_:=fun k r W hW=>qa6 b B s l k (ba (qa4 s.data.toList)) r W (h.below hW) hb (Nat.le_trans hB hW.size) hl;rw [qa1]at hy;rw [qa1,qa1]at hk;have HF2:Aside0 (∀ W,Below w.heap.size w W→Fr b B w W):=⟨fun W hW=>Fr.of_below hW hB (Ah hb)⟩;have c0:w.cell? ⟨b,0,none⟩=some (Ac s):=by obtain⟨v,h1,_⟩:=h;rw [qu h1];rfl
  generalize s.data.toList.drop (qa4 s.data.toList).length=r at *;generalize qa4 s.data.toList=R at *;have d0:(ba R).toList.isEmpty=false:=by rw [AB,qa1];cases R with | nil=>exact absurd rfl hr0 | cons _ _=>rfl
  have eR:(ba R).toList=R:=by rw [AB,qa1]
  have HN:=Aside0.mk hn;have HY:=Aside0.mk (fun k=>hy k (ba r));have HL:=Aside0.mk hf;have HE:=Aside0.mk he;clear hn hy hf he h hT hr0;unfold qn1 at HY HL HE ⊢;unfold qi21
  cases hq:qc8 (ba R)with
  | false=>
    rw [hq]at HN;simp only [AR,if_false];clear hq HY HE hk eR;generalize ba R=z at *;generalize ba r=y at *;go_enter Tryz.func50,Tryz.ntmps50;go_wp2_with fail
    refine hr.mono ?_;rintro e w1 ⟨rfl,b1⟩;have hN:=HN.out _ b1;have B1:=Aside0.mk b1;clear b1;go_wp2_with fail
    refine hN.mono ?_;rintro e w2 ⟨rfl,b2⟩;have b3:=chain B1.out (Ag _) b2;have hS:=HL.out _ b3;have F1:=Aside0.mk (HF2.out _ b3);clear b2 b3;go_wp2_with fail
    refine hS.mono ?_;rintro e w3 ⟨rfl,h2,f2⟩;go_wp2_with fail
    go_ret;exact⟨rfl,h2,F1.out.trans f2⟩
  | true=>
    rw [hq]at HN;simp only [if_true];clear hq
    cases hE:qi2 l with
    | false=>
      rw [hE]at HE;simp only [AR,if_false];clear hE HL eR;have HK:=Aside0.mk hk;clear hk;generalize ba R=z at *;generalize ba r=y at *;generalize qv12 R r=K at *;go_enter Tryz.func50,Tryz.ntmps50;go_wp2_with fail
      refine hr.mono ?_;rintro e w1 ⟨rfl,b1⟩;have hN:=HN.out _ b1;have B1:=Aside0.mk b1;clear b1;go_wp2_with fail
      refine hN.mono ?_;rintro e w2 ⟨rfl,b2⟩;have b3:=chain B1.out (Ag _) b2;have hS:=HE.out _ b3;have B3:=Aside0.mk b3;clear b2 b3 B1 hN;go_wp2_with fail
      refine hS.mono ?_;rintro e w3 ⟨rfl,b3⟩;have B4:=Aside0.mk (chain B3.out (Ag _) b3);have hK:=HK.out w3;clear b3 B3 hS;go_wp2_with fail
      refine hK.mono ?_;rintro e w4 ⟨rfl,b4⟩;have b5:=chain B4.out (Ag _) b4;have hS:=HY.out K _ b5;have F1:=Aside0.mk (HF2.out _ b5);clear b4 b5 B4 hK;go_wp2_with fail
      refine hS.mono ?_;rintro e w5 ⟨rfl,h2,f2⟩;go_wp2_with fail
      go_ret;exact⟨rfl,h2,F1.out.trans f2⟩
    | true=>
      rw [hE]at HE;simp only [if_true];rw [four_eq,← eR];clear hE hk;obtain⟨q,hq⟩:∃ q,((ba R).toList == [97,110,100] || (ba R).toList == [111,114] || (ba R).toList == [109,111,100] || (ba R).toList == [100,105,118])=q:=⟨_,rfl⟩;rw [hq];have HQ:=Aside0.mk hq;rw [eR];clear hq eR;have HY5:=Aside0.mk (HY.out 5);clear HY;generalize ba R=z at *;generalize ba r=y at *
      cases q
      all_goals
        simp only [AR,if_false,if_true];go_enter Tryz.func50,Tryz.ntmps50;go_wp2_with fail
        refine hr.mono ?_;rintro e w1 ⟨rfl,b1⟩;have hN:=HN.out _ b1;have B1:=Aside0.mk b1;clear b1;go_wp2_with fail
        refine hN.mono ?_;rintro e w2 ⟨rfl,b2⟩;have b3:=chain B1.out (Ag _) b2;have hS:=HE.out _ b3;have B3:=Aside0.mk b3;clear b2 b3 B1 hN;go_wp2_with fail
        refine hS.mono ?_;rintro e w3 ⟨rfl,b3⟩;have b4:=chain B3.out (Ag _) b3;have hY:=HY5.out _ b4;have hL:=HL.out _ b4;have F1:=Aside0.mk (HF2.out _ b4);clear b3 B3 hS b4;go_wp2_with fail
        all_goals
          first
          | (refine hY.mono ?_
             rintro e w5 ⟨rfl,h2,f2⟩;go_wp2_with fail
             go_ret
             first | exact⟨rfl,h2,F1.out.trans f2⟩ | (exfalso;have:=HQ.out;simp_all;done))
          | (refine hL.mono ?_
             rintro e w5 ⟨rfl,h2,f2⟩;go_wp2_with fail
             go_ret
             first | exact⟨rfl,h2,F1.out.trans f2⟩ | (exfalso;have:=HQ.out;simp_all;done))
end Go.Proofs.YtocdckniokhbbaaGreatDoor.LexJ
