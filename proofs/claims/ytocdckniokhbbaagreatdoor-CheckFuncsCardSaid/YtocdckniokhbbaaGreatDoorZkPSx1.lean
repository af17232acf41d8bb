import Derived.Test.YtocdckniokhbbaaGreatDoorZkZz
import Derived.Test.YtocdckniokhbbaaGreatDoorZkPSx0
set_option linter.unusedVariables false
set_option linter.unusedSimpArgs false
open Go.Value renaming int→Aa,string→Ac,slice→Ad,bool→Ae
open Go.IntKind renaming i64→Ab
open Go.Proofs.Tryz renaming prog→Aj,func140→Bu,ntmps140→Bx
open Option renaming some→Ay,bind_eq_some_iff→AB
open Nat renaming le_refl→Ag
open Go.RowKit.Below renaming refl→Ao
open Go.World renaming block_lt_of_cell?→Bp
open List renaming setIfInBounds_toArray→Ap,set_cons_zero→Aw,set_cons_succ→Ax
open Go.Act renaming put→AP
open Bool renaming eq_false_iff→AR
set_option maxHeartbeats 8000000
set_option maxRecDepth 100000
namespace Go.Proofs.YtocdckniokhbbaaGreatDoor.PS
open Go.RowKit YtocdckniokhbbaaGreatDoorW.PrintWords YtocdckniokhbbaaGreatDoorW.PrintLast YtocdckniokhbbaaGreatDoorW.PrintMore
attribute [local go_sem] qw3 qt4
def axis_Name.f (a0:Int):Option (ByteArray):=if a0=1 then(some (⟨#[99,104,105,108,100]⟩:ByteArray))else(if a0=2 then(some (⟨#[100,101,115,99,101,110,100,97,110,116]⟩:ByteArray))else(if a0=3 then(some (⟨#[112,97,114,101,110,116]⟩:ByteArray))else(if a0=4 then(some (⟨#[97,110,99,101,115,116,111,114]⟩:ByteArray))else(if a0=5 then(some (⟨#[102,111,108,108,111,119,105,110,103,45,115,105,98,108,105,110,103]⟩:ByteArray))else(if a0=6 then(some (⟨#[112,114,101,99,101,100,105,110,103,45,115,105,98,108,105,110,103]⟩:ByteArray))else(if a0=7 then(some (⟨#[102,111,108,108,111,119,105,110,103]⟩:ByteArray))else(if a0=8 then(some (⟨#[112,114,101,99,101,100,105,110,103]⟩:ByteArray))else(if a0=9 then(some (⟨#[97,116,116,114,105,98,117,116,101]⟩:ByteArray))else(if a0=10 then(some (⟨#[115,101,108,102]⟩:ByteArray))else(if a0=11 then(some (⟨#[100,101,115,99,101,110,100,97,110,116,45,111,114,45,115,101,108,102]⟩:ByteArray))else(if a0=12 then(some (⟨#[97,110,99,101,115,116,111,114,45,111,114,45,115,101,108,102]⟩:ByteArray))else(some (⟨#[]⟩:ByteArray)))))))))))))
theorem axis_Name.calls (a0:Int) (r:ByteArray) (w:World) (h:axis_Name.f a0=some r) :
  Calls Aj 140 #[Aa Ab a0] w fun e w'=>e= .returned (Ac r)∧Drawn0 w w':=by
 have H:(if a0=1 then(some (⟨#[99,104,105,108,100]⟩:ByteArray))else(if a0=2 then(some (⟨#[100,101,115,99,101,110,100,97,110,116]⟩:ByteArray))else(if a0=3 then(some (⟨#[112,97,114,101,110,116]⟩:ByteArray))else(if a0=4 then(some (⟨#[97,110,99,101,115,116,111,114]⟩:ByteArray))else(if a0=5 then(some (⟨#[102,111,108,108,111,119,105,110,103,45,115,105,98,108,105,110,103]⟩:ByteArray))else(if a0=6 then(some (⟨#[112,114,101,99,101,100,105,110,103,45,115,105,98,108,105,110,103]⟩:ByteArray))else(if a0=7 then(some (⟨#[102,111,108,108,111,119,105,110,103]⟩:ByteArray))else(if a0=8 then(some (⟨#[112,114,101,99,101,100,105,110,103]⟩:ByteArray))else(if a0=9 then(some (⟨#[97,116,116,114,105,98,117,116,101]⟩:ByteArray))else(if a0=10 then(some (⟨#[115,101,108,102]⟩:ByteArray))else(if a0=11 then(some (⟨#[100,101,115,99,101,110,100,97,110,116,45,111,114,45,115,101,108,102]⟩:ByteArray))else(if a0=12 then(some (⟨#[97,110,99,101,115,116,111,114,45,111,114,45,115,101,108,102]⟩:ByteArray))else(some (⟨#[]⟩:ByteArray))))))))))))))=some r:=h;clear h;by_cases c2:a0=1
 ·rw [if_pos c2]at H;have c2b0:(a0 == 1)=true:=beq_iff_eq.mpr c2;have c2b1:(a0 !=1)=false:=bne_eq_false_iff_eq.mpr c2;clear c2;obtain rfl:=Ay.inj H;go_enter Bu,Bx;go_wp2;go_ret;exact⟨zq,zt⟩
 ·rw [if_neg c2]at H;have c2b0:(a0 == 1)=false:=beq_eq_false_iff_ne.mpr c2;have c2b1:(a0 !=1)=true:=bne_iff_ne.mpr c2;by_cases c3:a0=2
  ·rw [if_pos c3]at H;have c3b0:(a0 == 2)=true:=beq_iff_eq.mpr c3;have c3b1:(a0 !=2)=false:=bne_eq_false_iff_eq.mpr c3;clear c3;obtain rfl:=Ay.inj H;go_enter Bu,Bx;go_wp2;go_ret;exact⟨zq,zt⟩
  ·rw [if_neg c3]at H;have c3b0:(a0 == 2)=false:=beq_eq_false_iff_ne.mpr c3;have c3b1:(a0 !=2)=true:=bne_iff_ne.mpr c3;by_cases c4:a0=3
   ·rw [if_pos c4]at H;have c4b0:(a0 == 3)=true:=beq_iff_eq.mpr c4;have c4b1:(a0 !=3)=false:=bne_eq_false_iff_eq.mpr c4;clear c4;obtain rfl:=Ay.inj H;go_enter Bu,Bx;go_wp2;go_ret;exact⟨zq,zt⟩
   ·rw [if_neg c4]at H;have c4b0:(a0 == 3)=false:=beq_eq_false_iff_ne.mpr c4;have c4b1:(a0 !=3)=true:=bne_iff_ne.mpr c4;by_cases c5:a0=4
    ·rw [if_pos c5]at H;have c5b0:(a0 == 4)=true:=beq_iff_eq.mpr c5;have c5b1:(a0 !=4)=false:=bne_eq_false_iff_eq.mpr c5;clear c5;obtain rfl:=Ay.inj H;go_enter Bu,Bx;go_wp2;go_ret;exact⟨zq,zt⟩
    ·rw [if_neg c5]at H;have c5b0:(a0 == 4)=false:=beq_eq_false_iff_ne.mpr c5;have c5b1:(a0 !=4)=true:=bne_iff_ne.mpr c5;by_cases c6:a0=5
     ·rw [if_pos c6]at H;have c6b0:(a0 == 5)=true:=beq_iff_eq.mpr c6;have c6b1:(a0 !=5)=false:=bne_eq_false_iff_eq.mpr c6;clear c6;obtain rfl:=Ay.inj H;go_enter Bu,Bx;go_wp2;go_ret;exact⟨zq,zt⟩
     ·rw [if_neg c6]at H;have c6b0:(a0 == 5)=false:=beq_eq_false_iff_ne.mpr c6;have c6b1:(a0 !=5)=true:=bne_iff_ne.mpr c6;by_cases c7:a0=6
      ·rw [if_pos c7]at H;have c7b0:(a0 == 6)=true:=beq_iff_eq.mpr c7;have c7b1:(a0 !=6)=false:=bne_eq_false_iff_eq.mpr c7;clear c7;obtain rfl:=Ay.inj H;go_enter Bu,Bx;go_wp2;go_ret;exact⟨zq,zt⟩
      ·rw [if_neg c7]at H;have c7b0:(a0 == 6)=false:=beq_eq_false_iff_ne.mpr c7;have c7b1:(a0 !=6)=true:=bne_iff_ne.mpr c7;by_cases c8:a0=7
       ·rw [if_pos c8]at H;have c8b0:(a0 == 7)=true:=beq_iff_eq.mpr c8;have c8b1:(a0 !=7)=false:=bne_eq_false_iff_eq.mpr c8;clear c8;obtain rfl:=Ay.inj H;go_enter Bu,Bx;go_wp2;go_ret;exact⟨zq,zt⟩
       ·rw [if_neg c8]at H;have c8b0:(a0 == 7)=false:=beq_eq_false_iff_ne.mpr c8;have c8b1:(a0 !=7)=true:=bne_iff_ne.mpr c8;by_cases c9:a0=8
        ·rw [if_pos c9]at H;have c9b0:(a0 == 8)=true:=beq_iff_eq.mpr c9;have c9b1:(a0 !=8)=false:=bne_eq_false_iff_eq.mpr c9;clear c9;obtain rfl:=Ay.inj H;go_enter Bu,Bx;go_wp2;go_ret;exact⟨zq,zt⟩
        ·rw [if_neg c9]at H;have c9b0:(a0 == 8)=false:=beq_eq_false_iff_ne.mpr c9;have c9b1:(a0 !=8)=true:=bne_iff_ne.mpr c9;by_cases c10:a0=9
         ·rw [if_pos c10]at H;have c10b0:(a0 == 9)=true:=beq_iff_eq.mpr c10;have c10b1:(a0 !=9)=false:=bne_eq_false_iff_eq.mpr c10;clear c10;obtain rfl:=Ay.inj H;go_enter Bu,Bx;go_wp2;go_ret;exact⟨zq,zt⟩
         ·rw [if_neg c10]at H;have c10b0:(a0 == 9)=false:=beq_eq_false_iff_ne.mpr c10;have c10b1:(a0 !=9)=true:=bne_iff_ne.mpr c10;by_cases c11:a0=10
          ·rw [if_pos c11]at H;have c11b0:(a0 == 10)=true:=beq_iff_eq.mpr c11;have c11b1:(a0 !=10)=false:=bne_eq_false_iff_eq.mpr c11;clear c11;obtain rfl:=Ay.inj H;go_enter Bu,Bx;go_wp2;go_ret;exact⟨zq,zt⟩
          ·rw [if_neg c11]at H;have c11b0:(a0 == 10)=false:=beq_eq_false_iff_ne.mpr c11;have c11b1:(a0 !=10)=true:=bne_iff_ne.mpr c11;by_cases c12:a0=11
           ·rw [if_pos c12]at H;have c12b0:(a0 == 11)=true:=beq_iff_eq.mpr c12;have c12b1:(a0 !=11)=false:=bne_eq_false_iff_eq.mpr c12;clear c12;obtain rfl:=Ay.inj H;go_enter Bu,Bx;go_wp2;go_ret;exact⟨zq,zt⟩
           ·rw [if_neg c12]at H;have c12b0:(a0 == 11)=false:=beq_eq_false_iff_ne.mpr c12;have c12b1:(a0 !=11)=true:=bne_iff_ne.mpr c12;by_cases c13:a0=12
            ·rw [if_pos c13]at H;have c13b0:(a0 == 12)=true:=beq_iff_eq.mpr c13;have c13b1:(a0 !=12)=false:=bne_eq_false_iff_eq.mpr c13;clear c13;obtain rfl:=Ay.inj H;go_enter Bu,Bx;go_wp2;go_ret;exact⟨zq,zt⟩
            ·rw [if_neg c13]at H;have c13b0:(a0 == 12)=false:=beq_eq_false_iff_ne.mpr c13;have c13b1:(a0 !=12)=true:=bne_iff_ne.mpr c13;obtain rfl:=Ay.inj H;go_enter Bu,Bx;go_wp2;go_ret;exact⟨zq,zt⟩
def axis_Of.l0:Nat→ByteArray→Int→Option (Int)
 | 0,_,_=>none
 | k+1,x0,x3=>if x3≤12 then((axis_Name.f x3).bind fun t101=>(if t101.toList=x0.toList then(some x3)else(axis_Of.l0 k x0 (wrap64 (x3+1)))))else(some 0)
def axis_Of.f (k:Nat) (a0:ByteArray):Option (Int):=axis_Of.l0 k a0 1
theorem axis_Of.calls (k:Nat) (a0:ByteArray) (r:Int) (w:World) (h:axis_Of.f k a0=some r) :
  Calls Aj 215 #[Ac a0] w fun e w'=>e= .returned (Aa Ab r)∧Drawn0 w w':=by
 have H:(axis_Of.l0 k a0 1)=some r:=h;clear h;have H':=Aside0.mk H;clear H;go_enter Tryz.func215,Tryz.ntmps215;go_wp2;go_loopg [3] k (fun kq v3 w'=>∃ (x3_1:Int),v3= Aa Ab x3_1∧Aside0 (axis_Of.l0 kq a0 x3_1=some r)∧Aside0 (kq≤k)∧Drawn0 w w')
 case atStart=>exact⟨(1),zq,H',⟨Ag _⟩,zt⟩
 case round=>
  clear H';obtain⟨x3_1,rfl,HA,HK1,⟨m1,rfl⟩⟩:=hrel
  cases gk with
  | zero=>exact absurd HA.out (by simp [axis_Of.l0])
  | succ k1=>
   have H:=HA.out;clear HA;simp only [axis_Of.l0]at H;by_cases c2:x3_1≤12
   ·rw [if_pos c2]at H;have c2b0:decide (x3_1≤12)=true:=decide_eq_true c2;clear c2;replace H:=AB.mp H;obtain⟨t101,A30,H⟩:=H;replace H:(if t101.toList=a0.toList then(some x3_1)else(axis_Of.l0 k1 a0 (wrap64 (x3_1+1))))=some r:=H;have A3:=Aside0.mk A30;clear A30;by_cases c4:t101.toList=a0.toList
    ·rw [if_pos c4]at H;have c4b0:(t101.toList == a0.toList)=true:=beq_iff_eq.mpr c4;have c4b1:(t101.toList !=a0.toList)=false:=bne_eq_false_iff_eq.mpr c4;clear c4;obtain rfl:=Ay.inj H;go_wp2_with (first | ((with_reducible refine qi1 (f:=140) rfl ?_);refine qr2 (some 9) rfl rfl Bu zm rfl #[Aa Ab x3_1] rfl zk ?_;(with_reducible refine(axis_Name.calls x3_1 t101 _ A3.out).mono ?_);rintro e w' ⟨rfl,⟨nd,rfl⟩⟩;refine⟨_,rfl,?_⟩))
     go_ret;exact⟨zq,zt⟩
    ·rw [if_neg c4]at H;have c4b0:(t101.toList == a0.toList)=false:=beq_eq_false_iff_ne.mpr c4;have c4b1:(t101.toList !=a0.toList)=true:=bne_iff_ne.mpr c4;have H':=Aside0.mk H;clear H;go_wp2_with (first | ((with_reducible refine qi1 (f:=140) rfl ?_);refine qr2 (some 9) rfl rfl Bu zm rfl #[Aa Ab x3_1] rfl zk ?_;(with_reducible refine(axis_Name.calls x3_1 t101 _ A3.out).mono ?_);rintro e w' ⟨rfl,⟨nd,rfl⟩⟩;refine⟨_,rfl,?_⟩))
     go_roundg k1
     case measure=>have:=HK1.out;omega
     case rel=>exact⟨(wrap64 (x3_1+1)),zq,H',⟨by have:=HK1.out;omega⟩,zt⟩
   ·rw [if_neg c2]at H;have c2b0:decide (x3_1≤12)=false:=decide_eq_false c2;clear c2;obtain rfl:=Ay.inj H;go_wp2;go_ret;exact⟨zq,zt⟩
mutual
def syntax_deep.l0:Nat→Int→List (S93)→Int→Int→Option (Bool)
 | 0,_,_,_,_=>none
 | k+1,x3,x6,x7,x8=>if x8<x7 then(if 0≤x8 then(if x8<(x6.length:Int)then(if((rd_T93 x6 x8).f0)=1 then(if((rd_T93 x6 x8).f1).toList=([40]:List UInt8)then(syntax_deep.j1 k x3 x6 x7 x8 ((rd_T93 x6 x8).f1) (((rd_T93 x6 x8).f1).toList == ([40]:List UInt8)))else(syntax_deep.j1 k x3 x6 x7 x8 ((rd_T93 x6 x8).f1) (((rd_T93 x6 x8).f1).toList == ([91]:List UInt8))))else(syntax_deep.l0 k x3 x6 x7 (wrap64 (x8+1))))else(none))else(none))else(some false)
def syntax_deep.j1:Nat→Int→List (S93)→Int→Int→ByteArray→Bool→Option (Bool)
 | 0,_,_,_,_,_,_=>none
 | k+1,x3,x6,x7,x8,x16,x17=>if x17=true then(if(wrap64 (x3+1))>12 then(some true)else(syntax_deep.l0 k (wrap64 (x3+1)) x6 x7 (wrap64 (x8+1))))else(if x16.toList=([41]:List UInt8)then(syntax_deep.j2 k x3 x6 x7 x8 (x16.toList == ([41]:List UInt8)))else(syntax_deep.j2 k x3 x6 x7 x8 (x16.toList == ([93]:List UInt8))))
def syntax_deep.j2:Nat→Int→List (S93)→Int→Int→Bool→Option (Bool)
 | 0,_,_,_,_,_=>none
 | k+1,x3,x6,x7,x8,x22=>if x22=true then(if(mx (wrap64 (x3 - 1)) 0)>12 then(some true)else(syntax_deep.l0 k (mx (wrap64 (x3 - 1)) 0) x6 x7 (wrap64 (x8+1))))else(if x3>12 then(some true)else(syntax_deep.l0 k x3 x6 x7 (wrap64 (x8+1))))
end
def syntax_deep.f (k:Nat) (l0:List (S93)):Option (Bool):=syntax_deep.l0 k 0 l0 (l0.length:Int) 0
theorem syntax_deep.calls (k:Nat) (A0:Option Addr) (c0:Nat) (l0:List (S93)) (r:Bool) (w:World) (hr0:Kd.C k93 w A0 l0.length l0) (hc0:l0.length≤c0) (h:syntax_deep.f k l0=some r) :
  Calls Aj 25 #[Ad A0 l0.length c0] w fun e w'=>e= .returned (Ae r)∧Below w.heap.size w w':=by
 have hu93:=Tryz.underlying93;have HR0:=Aside0.mk hr0;have HC0:=Aside0.mk hc0;clear hr0 hc0;have HB:=Aside0.mk (Ao w.heap.size w);have H:(syntax_deep.l0 k 0 l0 (l0.length:Int) 0)=some r:=h;clear h;have H':=Aside0.mk H;clear H;go_enter Tryz.func25,Tryz.ntmps25;go_wp2;go_loopg [3,8] k (fun kq v3 v8 w'=>∃ (x3_1:Int) (x8_1:Int),v3= Aa Ab x3_1∧v8= Aa Ab x8_1∧Aside0 (syntax_deep.l0 kq x3_1 l0 (l0.length:Int) x8_1=some r)∧Aside0 (kq≤k)∧Aside0 (Below w.heap.size w w'))
 case atStart=>exact⟨(0),(0),zq,zq,H',⟨Ag _⟩,⟨zj⟩⟩
 case round=>
  clear H';obtain⟨x3_1,x8_1,rfl,rfl,HA,HK1,HB⟩:=hrel
  cases gk with
  | zero=>exact absurd HA.out (by simp [syntax_deep.l0])
  | succ k1=>
   have H:=HA.out;clear HA;simp only [syntax_deep.l0]at H;by_cases c2:x8_1<(l0.length:Int)
   ·rw [if_pos c2]at H;have c2b0:decide (x8_1<(l0.length:Int))=true:=decide_eq_true c2;clear c2;by_cases c3:0≤x8_1
    ·rw [if_pos c3]at H;have c3b0:decide (0≤x8_1)=true:=decide_eq_true c3;clear c3;by_cases c4:x8_1<(l0.length:Int)
     ·rw [if_pos c4]at H;have c4b0:decide (x8_1<(l0.length:Int))=true:=decide_eq_true c4;clear c4;by_cases c5:((rd_T93 l0 x8_1).f0)=1
      ·rw [if_pos c5]at H;have c5b0:(((rd_T93 l0 x8_1).f0) == 1)=true:=beq_iff_eq.mpr c5;have c5b1:(((rd_T93 l0 x8_1).f0) !=1)=false:=bne_eq_false_iff_eq.mpr c5;clear c5;have HC6:=Aside0.mk H;clear H;have p106:0≤(x8_1:Int):=of_decide_eq_true zaw;have q106:x8_1<(l0.length:Int):=of_decide_eq_true zaw;obtain⟨ad106,e106,hx106_0,hx106_1,hx106_2,hx106_3⟩:=at_T93 HR0.out x8_1 p106 q106
       cases e106
       replace hx106_0:=(HB.out.cell (Bp w _ hx106_0)).trans hx106_0;replace hx106_1:=(HB.out.cell (Bp w _ hx106_1)).trans hx106_1;replace hx106_2:=(HB.out.cell (Bp w _ hx106_2)).trans hx106_2;replace hx106_3:=(HB.out.cell (Bp w _ hx106_3)).trans hx106_3;replace p106:=eq_true p106;replace q106:=eq_true q106;go_upto_if 17 with (first | ((with_reducible refine qc1 (N:=5) rfl ?_);refine qa1 ?hg (N:=5) ?hd (cs:= #[Aa Ab 0,Ac (⟨#[]⟩:ByteArray),Aa Ab 0,Aa Ab 0]) (t:=93) ?hr ?_;(case hd=>rfl);(case hg=>rfl);(case hr=>first | (go_simp;done) | (go_simp;rfl));intro gb107 hg w7 hbox hb;have BK107:=Aside0.mk (hbox);have GW107:=Aside0.mk ((by rw [hg];exact(qu zj):w.heap.size≤gb107));have GE107:=Aside0.mk ((by rw [hg];exact(qu zj):w.heap.size≤gb107));replace HB:=Aside0.mk (qw zj hb);clear hb hbox hg;have hcz8_0:w7.cell? ⟨gb107,0,none⟩=some (Aa Ab 0):=(qm BK107.out 0).trans rfl;have hcz8_1:w7.cell? ⟨gb107,1,none⟩=some (Ac (⟨#[]⟩:ByteArray)):=(qm BK107.out 1).trans rfl;have hcz8_2:w7.cell? ⟨gb107,2,none⟩=some (Aa Ab 0):=(qm BK107.out 2).trans rfl;have hcz8_3:w7.cell? ⟨gb107,3,none⟩=some (Aa Ab 0):=(qm BK107.out 3).trans rfl;have hfz8_0:=qe BK107.out 0;have hfz8_1:=qe BK107.out 1;have hfz8_2:=qe BK107.out 2;have hfz8_3:=qe BK107.out 3))
       (try simp only [AP,Ap,Aw,Ax]);go_cut [17] (fun v17 wc=>∃ (kq:Nat) (x17_5:Bool),v17= Ae x17_5∧Aside0 (syntax_deep.j1 kq x3_1 l0 (l0.length:Int) x8_1 ((rd_T93 l0 x8_1).f1) x17_5=some r)∧Aside0 (kq≤k1)∧Aside0 (wc.heap[gb107]?=some (.cells #[Aa Ab ((rd_T93 l0 x8_1).f0),Ac ((rd_T93 l0 x8_1).f1),Aa Ab ((rd_T93 l0 x8_1).f2.f0),Aa Ab ((rd_T93 l0 x8_1).f2.f1)] 93 (0,0)))∧Aside0 (Below w.heap.size w wc))
       case first=>
        have H:=HC6.out;clear HC6;by_cases c9:((rd_T93 l0 x8_1).f1).toList=([40]:List UInt8)
        ·rw [if_pos c9]at H;have c9b0:(((rd_T93 l0 x8_1).f1).toList == ([40]:List UInt8))=true:=beq_iff_eq.mpr c9;have c9b1:(((rd_T93 l0 x8_1).f1).toList !=([40]:List UInt8))=false:=bne_eq_false_iff_eq.mpr c9;clear c9
         (first | rw [c9b0] | (simp only [qm1];rw [c9b0]) | skip)
         have H':=Aside0.mk H;clear H;go_wp2;go_meet
         case rel=>exact⟨_,((((rd_T93 l0 x8_1).f1).toList == ([40]:List UInt8))),zq,H',⟨zbb⟩,⟨z7⟩,⟨zx⟩⟩
        ·rw [if_neg c9]at H;have c9b0:(((rd_T93 l0 x8_1).f1).toList == ([40]:List UInt8))=false:=beq_eq_false_iff_ne.mpr c9;have c9b1:(((rd_T93 l0 x8_1).f1).toList !=([40]:List UInt8))=true:=bne_iff_ne.mpr c9
         (first | rw [c9b0] | (simp only [qm1];rw [c9b0]) | skip)
         have H':=Aside0.mk H;clear H;go_wp2;go_meet
         case rel=>exact⟨_,((((rd_T93 l0 x8_1).f1).toList == ([91]:List UInt8))),zq,H',⟨zbb⟩,⟨z7⟩,⟨zx⟩⟩
       case rest=>
        clear HC6
        try clear p1
        try clear q1
        try clear hx1
        try clear c2
        try clear c2b0
        try clear p2
        try clear c3
        try clear c3b0
        try clear c4
        try clear c4b0
        try clear c5
        try clear c5b0
        try clear c5b1
        try clear c9
        try clear c9b0
        try clear c9b1
        try clear hcz8_0
        try clear hcz8_1
        try clear hcz8_2
        try clear hcz8_3
        try clear hfz8_0
        try clear hfz8_1
        try clear hfz8_2
        try clear hfz8_3
        try clear hx106_0
        try clear hx106_1
        try clear hx106_2
        try clear hx106_3
        try clear p106
        try clear q106
        obtain⟨kq,x17_5,rfl,HA,HJ5,BK107,HB⟩:=hcut
        cases kq with
        | zero=>exact absurd HA.out (by simp [syntax_deep.j1])
        | succ kj5=>
         have H:=HA.out;clear HA;simp only [syntax_deep.j1]at H;by_cases c10:x17_5=true
         ·subst c10;have H1:(if(wrap64 (x3_1+1))>12 then(some true)else(syntax_deep.l0 kj5 (wrap64 (x3_1+1)) l0 (l0.length:Int) (wrap64 (x8_1+1))))=some r:=by rw [if_pos rfl]at H;exact H
          clear H;have H:=H1;clear H1;by_cases c11:(wrap64 (x3_1+1))>12
          ·rw [if_pos c11]at H;have c11b0:decide (12<(wrap64 (x3_1+1)))=true:=decide_eq_true c11;clear c11;obtain rfl:=Ay.inj H;go_wp2;go_ret;exact⟨zo,zx⟩
          ·rw [if_neg c11]at H;have c11b0:decide (12<(wrap64 (x3_1+1)))=false:=decide_eq_false c11;clear c11;have H':=Aside0.mk H;clear H;go_wp2;go_roundg kj5
           case measure=>have:=HK1.out;have:=HJ5.out;omega
           case rel=>exact⟨(wrap64 (x3_1+1)),(wrap64 (x8_1+1)),zq,zq,H',⟨by have:=HK1.out;have:=HJ5.out;omega⟩,⟨zx⟩⟩
         ·replace c10:=AR.mpr c10;subst c10;have H1:(if((rd_T93 l0 x8_1).f1).toList=([41]:List UInt8)then(syntax_deep.j2 kj5 x3_1 l0 (l0.length:Int) x8_1 (((rd_T93 l0 x8_1).f1).toList == ([41]:List UInt8)))else(syntax_deep.j2 kj5 x3_1 l0 (l0.length:Int) x8_1 (((rd_T93 l0 x8_1).f1).toList == ([93]:List UInt8))))=some r:=by rw [if_neg (show ¬ (false=true) by decide)]at H;exact H
          clear H;have H:=H1;clear H1;have HC12:=Aside0.mk H;clear H;go_upto_if 22 with (fail)
          go_cut [22] (fun v22 wc=>∃ (kq:Nat) (x22_11:Bool),v22= Ae x22_11∧Aside0 (syntax_deep.j2 kq x3_1 l0 (l0.length:Int) x8_1 x22_11=some r)∧Aside0 (kq≤kj5)∧Aside0 (wc.heap[gb107]?=some (.cells #[Aa Ab ((rd_T93 l0 x8_1).f0),Ac ((rd_T93 l0 x8_1).f1),Aa Ab ((rd_T93 l0 x8_1).f2.f0),Aa Ab ((rd_T93 l0 x8_1).f2.f1)] 93 (0,0)))∧Aside0 (Below w.heap.size w wc))
          case first=>
           have H:=HC12.out;clear HC12;by_cases c13:((rd_T93 l0 x8_1).f1).toList=([41]:List UInt8)
           ·rw [if_pos c13]at H;have c13b0:(((rd_T93 l0 x8_1).f1).toList == ([41]:List UInt8))=true:=beq_iff_eq.mpr c13;have c13b1:(((rd_T93 l0 x8_1).f1).toList !=([41]:List UInt8))=false:=bne_eq_false_iff_eq.mpr c13;clear c13
            (first | rw [c13b0] | (simp only [qm1];rw [c13b0]) | skip)
            have H':=Aside0.mk H;clear H;go_wp2;go_meet
            case rel=>exact⟨_,((((rd_T93 l0 x8_1).f1).toList == ([41]:List UInt8))),zq,H',⟨by have:=HK1.out;have:=HJ5.out;first | omega | exact Ag _⟩,⟨by(with_reducible repeat(first | refine qi ?_ _ | refine qj ?_ | refine qb ?_ _));exact BK107.out⟩,⟨zx⟩⟩
           ·rw [if_neg c13]at H;have c13b0:(((rd_T93 l0 x8_1).f1).toList == ([41]:List UInt8))=false:=beq_eq_false_iff_ne.mpr c13;have c13b1:(((rd_T93 l0 x8_1).f1).toList !=([41]:List UInt8))=true:=bne_iff_ne.mpr c13
            (first | rw [c13b0] | (simp only [qm1];rw [c13b0]) | skip)
            have H':=Aside0.mk H;clear H;go_wp2;go_meet
            case rel=>exact⟨_,((((rd_T93 l0 x8_1).f1).toList == ([93]:List UInt8))),zq,H',⟨by have:=HK1.out;have:=HJ5.out;first | omega | exact Ag _⟩,⟨by(with_reducible repeat(first | refine qi ?_ _ | refine qj ?_ | refine qb ?_ _));exact BK107.out⟩,⟨zx⟩⟩
          case rest=>
           clear HC12
           try clear c1
           try clear p1
           try clear q1
           try clear hx1
           try clear c2
           try clear c2b0
           try clear p2
           try clear c3
           try clear c3b0
           try clear c4
           try clear c4b0
           try clear c5
           try clear c5b0
           try clear c5b1
           try clear p6
           try clear c9
           try clear c9b0
           try clear c9b1
           try clear c10
           try clear p10
           try clear q10
           try clear hx10
           try clear c11
           try clear c11b0
           try clear c13
           try clear c13b0
           try clear c13b1
           try clear hcz8_0
           try clear hcz8_1
           try clear hcz8_2
           try clear hcz8_3
           try clear hfz8_0
           try clear hfz8_1
           try clear hfz8_2
           try clear hfz8_3
           try clear hx106_0
           try clear hx106_1
           try clear hx106_2
           try clear hx106_3
           try clear p1
           try clear p106
           try clear p2
           try clear q1
           try clear q106
           obtain⟨kq,x22_11,rfl,HA,HJ11,BK107,HB⟩:=hcut
           cases kq with
           | zero=>exact absurd HA.out (by simp [syntax_deep.j2])
           | succ kj11=>
            have H:=HA.out;clear HA;simp only [syntax_deep.j2]at H;by_cases c14:x22_11=true
            ·subst c14;have H1:(if(mx (wrap64 (x3_1 - 1)) 0)>12 then(some true)else(syntax_deep.l0 kj11 (mx (wrap64 (x3_1 - 1)) 0) l0 (l0.length:Int) (wrap64 (x8_1+1))))=some r:=by rw [if_pos rfl]at H;exact H
             clear H;have H:=H1;clear H1;obtain⟨ji15,hji15⟩:∃ j_:Int,(mx (wrap64 (x3_1 - 1)) 0)=j_:=⟨_,rfl⟩;replace H:(if(ji15)>12 then(some true)else(syntax_deep.l0 kj11 ji15 l0 (l0.length:Int) (wrap64 (x8_1+1))))=some r:=by first | (rw [hji15]at H;exact H) | (simp only [hji15]at H ⊢;exact H)
             have hji15_:(if(wrap64 (x3_1 - 1))<0 then 0 else(wrap64 (x3_1 - 1)))=ji15:=hji15;by_cases c16:(ji15)>12
             ·rw [if_pos c16]at H;have c16b0:decide (12<(ji15))=true:=decide_eq_true c16;clear c16;obtain rfl:=Ay.inj H;go_wp2;go_ret;exact⟨by first | rfl | (simp [ ]<;>rfl) | (simp only [← hji15];first | rfl | (simp [ ]<;>rfl)) | (simp [*]<;>rfl),zx⟩
             ·rw [if_neg c16]at H;have c16b0:decide (12<(ji15))=false:=decide_eq_false c16;clear c16;have H':=Aside0.mk H;clear H;go_wp2;go_roundg kj11
              case measure=>have:=HK1.out;have:=HJ5.out;have:=HJ11.out;omega
              case rel=>exact⟨(ji15),(wrap64 (x8_1+1)),(by first | rfl | (simp;done) | (simp only [← hji15]<;>(first | rfl | simp)) | (simp [*];done)),zq,H',⟨by have:=HK1.out;have:=HJ5.out;have:=HJ11.out;omega⟩,⟨zx⟩⟩
            ·replace c14:=AR.mpr c14;subst c14;have H1:(if x3_1>12 then(some true)else(syntax_deep.l0 kj11 x3_1 l0 (l0.length:Int) (wrap64 (x8_1+1))))=some r:=by rw [if_neg (show ¬ (false=true) by decide)]at H;exact H
             clear H;have H:=H1;clear H1;by_cases c17:x3_1>12
             ·rw [if_pos c17]at H;have c17b0:decide (12<x3_1)=true:=decide_eq_true c17;clear c17;obtain rfl:=Ay.inj H;go_wp2;go_ret;exact⟨zo,zx⟩
             ·rw [if_neg c17]at H;have c17b0:decide (12<x3_1)=false:=decide_eq_false c17;clear c17;have H':=Aside0.mk H;clear H;go_wp2;go_roundg kj11
              case measure=>have:=HK1.out;have:=HJ5.out;have:=HJ11.out;omega
              case rel=>exact⟨(x3_1),(wrap64 (x8_1+1)),zq,zq,H',⟨by have:=HK1.out;have:=HJ5.out;have:=HJ11.out;omega⟩,⟨zx⟩⟩
      ·rw [if_neg c5]at H;have c5b0:(((rd_T93 l0 x8_1).f0) == 1)=false:=beq_eq_false_iff_ne.mpr c5;have c5b1:(((rd_T93 l0 x8_1).f0) !=1)=true:=bne_iff_ne.mpr c5;have H':=Aside0.mk H;clear H;have p106:0≤(x8_1:Int):=of_decide_eq_true zaw;have q106:x8_1<(l0.length:Int):=of_decide_eq_true zaw;obtain⟨ad106,e106,hx106_0,hx106_1,hx106_2,hx106_3⟩:=at_T93 HR0.out x8_1 p106 q106
       cases e106
       replace hx106_0:=(HB.out.cell (Bp w _ hx106_0)).trans hx106_0;replace hx106_1:=(HB.out.cell (Bp w _ hx106_1)).trans hx106_1;replace hx106_2:=(HB.out.cell (Bp w _ hx106_2)).trans hx106_2;replace hx106_3:=(HB.out.cell (Bp w _ hx106_3)).trans hx106_3;replace p106:=eq_true p106;replace q106:=eq_true q106;go_wp2_with (first | ((with_reducible refine qc1 (N:=5) rfl ?_);refine qa1 ?hg (N:=5) ?hd (cs:= #[Aa Ab 0,Ac (⟨#[]⟩:ByteArray),Aa Ab 0,Aa Ab 0]) (t:=93) ?hr ?_;(case hd=>rfl);(case hg=>rfl);(case hr=>first | (go_simp;done) | (go_simp;rfl));intro gb107 hg w18 hbox hb;have BK107:=Aside0.mk (hbox);have GW107:=Aside0.mk ((by rw [hg];exact(qu zj):w.heap.size≤gb107));have GE107:=Aside0.mk ((by rw [hg];exact(qu zj):w.heap.size≤gb107));replace HB:=Aside0.mk (qw zj hb);clear hb hbox hg;have hcz19_0:w18.cell? ⟨gb107,0,none⟩=some (Aa Ab 0):=(qm BK107.out 0).trans rfl;have hcz19_1:w18.cell? ⟨gb107,1,none⟩=some (Ac (⟨#[]⟩:ByteArray)):=(qm BK107.out 1).trans rfl;have hcz19_2:w18.cell? ⟨gb107,2,none⟩=some (Aa Ab 0):=(qm BK107.out 2).trans rfl;have hcz19_3:w18.cell? ⟨gb107,3,none⟩=some (Aa Ab 0):=(qm BK107.out 3).trans rfl;have hfz19_0:=qe BK107.out 0;have hfz19_1:=qe BK107.out 1;have hfz19_2:=qe BK107.out 2;have hfz19_3:=qe BK107.out 3))
       go_roundg k1
       case measure=>have:=HK1.out;omega
       case rel=>exact⟨(x3_1),(wrap64 (x8_1+1)),zq,zq,H',⟨by have:=HK1.out;omega⟩,⟨zx⟩⟩
     ·rw [if_neg c4]at H;exact absurd H (by simp)
    ·rw [if_neg c3]at H;exact absurd H (by simp)
   ·rw [if_neg c2]at H;have c2b0:decide (x8_1<(l0.length:Int))=false:=decide_eq_false c2;clear c2;obtain rfl:=Ay.inj H;go_wp2;go_ret;exact⟨zo,zj⟩
end Go.Proofs.YtocdckniokhbbaaGreatDoor.PS
