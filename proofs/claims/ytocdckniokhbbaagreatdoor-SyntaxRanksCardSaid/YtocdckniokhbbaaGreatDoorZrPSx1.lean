import Derived.Test.YtocdckniokhbbaaGreatDoorZrZz
import Derived.Test.YtocdckniokhbbaaGreatDoorZrSynCa
import Derived.Test.YtocdckniokhbbaaGreatDoorZrSynML
import Derived.Test.YtocdckniokhbbaaGreatDoorProg
import Derived.Below
import Derived.Deep.Draws
import Derived.Deep.AppendLies
import Derived.Maps.AppendAt
import Derived.OwnWalk
import Derived.Laws.BytesArg
import Derived.Laws.MakeOwn
import Derived.Laws.OwnMore
import Derived.Deep.OwnRows
import Derived.Tactics
import Derived.Lib.ConvBytes
import Derived.Laws.Slices
import Derived.WalkKit
import Derived.KernelRfl
import Derived.RowKit3
import Derived.Deep.LoopGhost
import Derived.Deep.QuietTactic
import Derived.BigQuiet
import Derived.WideLaws
import Derived.Deep.DeepCutAuto
import Derived.Deep.CutBlock
import Derived.Deep.RegionHeld3
import Derived.Laws.Rows
import Derived.Lib.AppendStr
import Derived.ArgAppend
import Derived.Laws.IdiomCopy
import Derived.OrdersHeld
import Derived.Laws.BitsLemmas
import Derived.RowKit
import Derived.Test.YtocdckniokhbbaaGreatDoorZrPFx1
import Derived.RegionTactic
import Derived.ChangeAlike
import Derived.BigRegion
import Derived.Great.BuildSlice
import Derived.Deep.WholeRow
import Derived.Test.YtocdckniokhbbaaGreatDoorZrWWords
import Derived.Test.YtocdckniokhbbaaGreatDoorZrWLast
import Derived.Laws.StructEq
import Derived.Test.YtocdckniokhbbaaGreatDoorZrWMore
set_option linter.unusedVariables false
set_option linter.unusedSimpArgs false
open Go.Proofs.Tryz renaming prog→Am,func140→Bu,ntmps140→Bw
open Go.Value renaming string→Ac,int→Aa,slice→Ad,bool→Ae
open Option renaming bind_some→Ay,some→Az,bind_eq_some_iff→AD
open Go.IntKind renaming i64→Ab
open Nat renaming le_refl→Ag
open List renaming length_append→Aq,setIfInBounds_toArray→Ap,set_cons_zero→At,set_cons_succ→Au
open Go.RowKit.Below renaming refl→Ao
open Go.World renaming block_lt_of_cell?→Br
open Go.Act renaming put→AO
set_option maxHeartbeats 8000000
set_option maxRecDepth 100000
namespace Go.Proofs.YtocdckniokhbbaaGreatDoor.Syn
open Go.RowKit Go.Shelf YtocdckniokhbbaaGreatDoorW.PrintWords YtocdckniokhbbaaGreatDoorW.PrintLast YtocdckniokhbbaaGreatDoorW.PrintMore CharB SpanA FigD LexA LexF
theorem qu22 (p:Nat) (A:Option Addr) (cap:Nat) (l r:List Wd) (nm:List UInt8) (w:World) (h:PB p A cap l r w) (n:Nat) (hn:80*r.length≤n+20)
  (hb:∀ m,m≤n→ ∀ r W,80*r.length+60≤m→PB p A cap l r W→Calls Am 27 #[qn p] W (Ans p A cap l W (isE W.heap.size) (ql2 m 0 r))) :
  Calls Am 219 #[qn p,Ac (ba nm)] w (Ans p A cap l w (isE w.heap.size) (qw8 (n+1) nm r)):=by
 rw [qw8]
 cases ht:takeW 1 [40] r with
 | none=>exact qo26 p A cap l r nm w h ht
 | some r1=>
  have hlr:r.length=r1.length+1:=by obtain⟨x0,h0,_⟩:=qv ht;rw [h0];rfl
  simp only [Ay]
  cases ht2:takeW 1 [41] r1 with
  | some r2=>exact qx18 p A cap l r nm w h r1 r2 ht ht2
  | none=>exact qv22 p A cap l r nm w h r1 ht ht2 n (by omega) hb
end Go.Proofs.YtocdckniokhbbaaGreatDoor.Syn
namespace Go.Proofs.YtocdckniokhbbaaGreatDoor.Syn
open Go.RowKit Go.Shelf YtocdckniokhbbaaGreatDoorW.PrintWords YtocdckniokhbbaaGreatDoorW.PrintLast YtocdckniokhbbaaGreatDoorW.PrintMore CharB SpanA FigD LexA LexF
structure WK (p:Nat) (A:Option Addr) (cap:Nat) (l:List Wd) (m:Nat):Prop where
 bin:∀ k,k≤5→ ∀ r W,80*r.length+60 - k≤m→PB p A cap l r W→Calls Am 52 #[qn p,Aa Ab (k:Int)] W (Ans p A cap l W (isE W.heap.size) (ql2 m k r))
 signed:∀ r W,80*r.length+53≤m→PB p A cap l r W→Calls Am 95 #[qn p] W (Ans p A cap l W (isE W.heap.size) (qe3 m r))
 union:∀ r W,80*r.length+52≤m→PB p A cap l r W→Calls Am 132 #[qn p] W (Ans p A cap l W (isE W.heap.size) (qe4 m r))
 path:∀ r W,80*r.length+51≤m→PB p A cap l r W→Calls Am 173 #[qn p] W (Ans p A cap l W (isE W.heap.size) (qm4 m r))
 loc:∀ r W,80*r.length+41≤m→PB p A cap l r W→Calls Am 192 #[qn p] W (Ans p A cap l W (isE W.heap.size) (qk18 m r))
 filter:∀ r W,qa2 r=true→80*r.length+40≤m→PB p A cap l r W→Calls Am 193 #[qn p] W (Ans p A cap l W (isE W.heap.size) (qm3 m r))
 prim:∀ r W,80*r.length+30≤m→PB p A cap l r W→Calls Am 208 #[qn p] W (Ans p A cap l W (isE W.heap.size) (qu3 m r))
 preds:∀ r W,80*r.length+21≤m→PB p A cap l r W→Calls Am 209 #[qn p] W (Ans p A cap l W (qw21 W.heap.size) (qm1 m [] r))
 step:∀ r W,80*r.length+40≤m→PB p A cap l r W→Calls Am 207 #[qn p] W (Ans p A cap l W (isX W.heap.size) (qc2 m r))
 call:∀ s r W,80*r.length+1≤m→PB p A cap l r W→Calls Am 219 #[qn p,Ac (ba s)] W (Ans p A cap l W (isE W.heap.size) (qw8 m s r))
theorem all_W (p:Nat) (A:Option Addr) (cap:Nat) (l:List Wd) (hax:∀ s W,Calls Am 215 #[Ac (ba s)] W fun e w'=>e= .returned (Aa Ab (ql1 s))∧Below W.heap.size W w') (n:Nat):WK p A cap l n:=by
 induction n using Nat.strongRecOn with
 | ind n ih=>
  cases n with
  | zero=>exact⟨fun k hk r W h=>absurd h (by omega),fun r W h=>absurd h (by omega),fun r W h=>absurd h (by omega),fun r W h=>absurd h (by omega),fun r W h=>absurd h (by omega),fun r W _ h=>absurd h (by omega),fun r W h=>absurd h (by omega),fun r W h=>absurd h (by omega),fun r W h=>absurd h (by omega),fun s r W h=>absurd h (by omega)⟩
  | succ n=>
   have I:∀ m,m≤n→WK p A cap l m:=fun m hm=>ih m (by omega)
   have hor:∀ m,m≤n→ ∀ r W,80*r.length+60≤m→PB p A cap l r W→Calls Am 27 #[qn p] W (Ans p A cap l W (isE W.heap.size) (ql2 m 0 r)):=
    fun m hm r W hl hP=>qu15 p A cap l r m W hP (fun W' hP'=>(I m hm).bin 0 (by omega) r W' (by omega) hP')
   have hst:∀ m,m≤n→ ∀ r W,80*r.length+40≤m→PB p A cap l r W→Calls Am 207 #[qn p] W (Ans p A cap l W (isX W.heap.size) (qc2 m r)):=fun m hm r W hl hP=>(I m hm).step r W hl hP
   have hbin:∀ k,k≤5→ ∀ r W,80*r.length+60 - k≤n+1→PB p A cap l r W→Calls Am 52 #[qn p,Aa Ab (k:Int)] W (Ans p A cap l W (isE W.heap.size) (ql2 (n+1) k r)):=by
    intro k hk r W hl hP;by_cases h5:k=5
    ·refine qy18 p A cap l r n k h5 (by omega) W hP fun m hm r W hl hP=>?_;subst h5
     cases m with
     | zero=>omega
     | succ m=>
      rw [ql2,if_pos (Ag _)];exact(I m (by omega)).signed r W (by omega) hP
    ·exact qz18 p A cap l r n k (by omega) (by omega) W hP fun m hm r W hl hP=>(I m hm).bin (k+1) (by omega) r W (by omega) hP
   have hor1:∀ m,m≤n+1→ ∀ r W,80*r.length+60≤m→PB p A cap l r W→Calls Am 27 #[qn p] W (Ans p A cap l W (isE W.heap.size) (ql2 m 0 r)):=fun m hm r W hl hP=>by
    by_cases he:m=n+1
    ·subst he;exact qu15 p A cap l r (n+1) W hP (fun W' hP'=>hbin 0 (by omega) r W' (by omega) hP')
    ·exact hor m (by omega) r W hl hP
   refine⟨hbin,?_,?_,?_,?_,?_,?_,?_,?_,?_⟩
   ·intro r W hl hP;rw [qe3]
    cases ht:takeW 5 [45] r with
    | none=>exact qt13 p A cap l r ht _ W hP fun W' hP'=>(I n (Ag _)).union r W' (by omega) hP'
    | some r1=>
     have hlr:r.length=r1.length+1:=by obtain⟨x0,h0,_⟩:=qv ht;rw [h0];rfl
     exact qu13 p A cap l r r1 ht _ W hP fun W' hP'=>(I n (Ag _)).signed r1 W' (by omega) hP'
   ·intro r W hl hP;exact qr17 p A cap l r n (by omega) W hP fun m hm r W hl hP=>(I m hm).path r W hl hP
   ·intro r W hl hP;exact qq20 p A cap l r W hP n (by omega) (fun hb W hP=>(I n (Ag _)).filter r W hb (by omega) hP) (fun _ W hP=>(I n (Ag _)).loc r W (by omega) hP) hst
   ·intro r W hl hP;exact ql25 p A cap l r W hP n (by omega) hst
   ·intro r W hb hl hP
    exact qb16 p A cap l r n W hP (fun W hP=>(I n (Ag _)).prim r W (by omega) hP) (fun r1 W hl1 hP=>(I n (Ag _)).preds r1 W (by omega) hP)
     (fun x r1 hx=>by obtain⟨u,hu,_⟩:=(qk3 n).prim hb hx;rw [hu,Aq];omega)
   ·intro r W hl hP;exact qn20 p A cap l r n W hP (fun s r1 W hlt hP=>(I n (Ag _)).call s r1 W (by omega) hP) (fun r1 W hlt hP=>hor n (Ag _) r1 W (by omega) hP)
   ·intro r W hl hP;exact qc18 p A cap l r (n+1) (by omega) W hP hor1
   ·intro r W hl hP;exact qv19 p A cap l r n W hP (fun r2 W hl2 hP=>(I n (Ag _)).preds r2 W (by omega) hP) hax
   ·intro s r W hl hP;exact qu22 p A cap l r s W hP n (by omega) hor
theorem qt24 (p:Nat) (A:Option Addr) (cap:Nat) (l r:List Wd) (n:Nat) (hn:80*r.length+60≤n) (hax:∀ s W,Calls Am 215 #[Ac (ba s)] W fun e w'=>e= .returned (Aa Ab (ql1 s))∧Below W.heap.size W w') (W:World) (h:PB p A cap l r W) :
  Calls Am 27 #[qn p] W (Ans p A cap l W (isE W.heap.size) (ql2 n 0 r)):=
 qu15 p A cap l r n W h fun W' hP'=>(all_W p A cap l hax n).bin 0 (by omega) r W' (by omega) hP'
end Go.Proofs.YtocdckniokhbbaaGreatDoor.Syn
namespace Go.Proofs.YtocdckniokhbbaaGreatDoor.PS
open Go.RowKit YtocdckniokhbbaaGreatDoorW.PrintWords YtocdckniokhbbaaGreatDoorW.PrintLast YtocdckniokhbbaaGreatDoorW.PrintMore
attribute [local go_sem] qk4 qv5
structure S24 where
 f0:Int
 f1:Int
def z24:S24:=⟨(0:Int),(0:Int)⟩
def k24:Kd S24:=Kd.iso (Kd.pair (Kd.int .i64) (Kd.int .i64)) (fun x:S24=>(x.f0,x.f1))
theorem qy25 {w:World} {x:S24} {cs:List Value} (h:k24.K w x cs):cs= [Aa Ab x.f0,Aa Ab x.f1]:=by
 obtain⟨_,_,rfl,rfl,rfl⟩:=h;exact rfl
theorem k24_mk (w:World) (x:S24):k24.K w x [Aa Ab x.f0,Aa Ab x.f1]:=⟨[Aa Ab x.f0],[Aa Ab x.f1],rfl,rfl,rfl⟩
structure S93 where
 f0:Int
 f1:ByteArray
 f2:S24
def z93:S93:=⟨(0:Int),(⟨#[]⟩:ByteArray),z24⟩
def k93:Kd S93:=Kd.iso (Kd.pair (Kd.int .i64) (Kd.pair Kd.string k24)) (fun x:S93=>(x.f0,x.f1,x.f2))
theorem qx25 {w:World} {x:S93} {cs:List Value} (h:k93.K w x cs):cs= [Aa Ab x.f0,Ac x.f1,Aa Ab x.f2.f0,Aa Ab x.f2.f1]:=by
 obtain⟨_,_,rfl,rfl,⟨_,_,rfl,rfl,s2⟩⟩:=h;obtain rfl:=qy25 s2;exact rfl
theorem k93_mk (w:World) (x:S93):k93.K w x [Aa Ab x.f0,Ac x.f1,Aa Ab x.f2.f0,Aa Ab x.f2.f1]:=⟨[Aa Ab x.f0],[Ac x.f1,Aa Ab x.f2.f0,Aa Ab x.f2.f1],rfl,rfl,⟨[Ac x.f1],[Aa Ab x.f2.f0,Aa Ab x.f2.f1],rfl,rfl,(k24_mk w x.f2)⟩⟩
def rd_T93 (xs:List S93) (i:Int):S93:=xs.getD i.toNat z93
theorem at_T93 {w:World} {A:Option Addr} {n:Nat} {xs:List S93} (h:Kd.C k93 w A n xs) (i:Int) (h0:0≤i) (h1:i<n):∃ ad,A=some ad∧w.cell? (ad.add (i.toNat*4))=some (Aa Ab (rd_T93 xs i).f0)∧w.cell? ⟨(ad.add (i.toNat*4)).block,(ad.add (i.toNat*4)).off+1,none⟩=some (Ac (rd_T93 xs i).f1)∧w.cell? ⟨(ad.add (i.toNat*4)).block,(ad.add (i.toNat*4)).off+2,none⟩=some (Aa Ab (rd_T93 xs i).f2.f0)∧w.cell? ⟨(ad.add (i.toNat*4)).block,(ad.add (i.toNat*4)).off+3,none⟩=some (Aa Ab (rd_T93 xs i).f2.f1):=by
 obtain⟨ad,c,e,_,hK,hc0⟩:=Kd.C_get h z93 i h0 h1;have hc:∀ j u,c[j]?=some u→w.cell? (ad.add (i.toNat*4+j))=some u:=hc0;obtain rfl:=qx25 hK;exact⟨ad,e,hc 0 _ rfl,by rw [← qe2 _ _ 1 (by omega)];exact hc 1 _ rfl,by rw [← qe2 _ _ 2 (by omega)];exact hc 2 _ rfl,by rw [← qe2 _ _ 3 (by omega)];exact hc 3 _ rfl⟩
end Go.Proofs.YtocdckniokhbbaaGreatDoor.PS
namespace Go.Proofs.YtocdckniokhbbaaGreatDoor.PS
open Go.RowKit YtocdckniokhbbaaGreatDoorW.PrintWords YtocdckniokhbbaaGreatDoorW.PrintLast YtocdckniokhbbaaGreatDoorW.PrintMore
attribute [local go_sem] qk4 qv5
def axis_Name.f (a0:Int):Option (ByteArray):=if a0=1 then(some (⟨#[99,104,105,108,100]⟩:ByteArray))else(if a0=2 then(some (⟨#[100,101,115,99,101,110,100,97,110,116]⟩:ByteArray))else(if a0=3 then(some (⟨#[112,97,114,101,110,116]⟩:ByteArray))else(if a0=4 then(some (⟨#[97,110,99,101,115,116,111,114]⟩:ByteArray))else(if a0=5 then(some (⟨#[102,111,108,108,111,119,105,110,103,45,115,105,98,108,105,110,103]⟩:ByteArray))else(if a0=6 then(some (⟨#[112,114,101,99,101,100,105,110,103,45,115,105,98,108,105,110,103]⟩:ByteArray))else(if a0=7 then(some (⟨#[102,111,108,108,111,119,105,110,103]⟩:ByteArray))else(if a0=8 then(some (⟨#[112,114,101,99,101,100,105,110,103]⟩:ByteArray))else(if a0=9 then(some (⟨#[97,116,116,114,105,98,117,116,101]⟩:ByteArray))else(if a0=10 then(some (⟨#[115,101,108,102]⟩:ByteArray))else(if a0=11 then(some (⟨#[100,101,115,99,101,110,100,97,110,116,45,111,114,45,115,101,108,102]⟩:ByteArray))else(if a0=12 then(some (⟨#[97,110,99,101,115,116,111,114,45,111,114,45,115,101,108,102]⟩:ByteArray))else(some (⟨#[]⟩:ByteArray)))))))))))))
theorem axis_Name.calls (a0:Int) (r:ByteArray) (w:World) (h:axis_Name.f a0=some r) :
  Calls Am 140 #[Aa Ab a0] w fun e w'=>e= .returned (Ac r)∧Drawn0 w w':=by
 have H:(if a0=1 then(some (⟨#[99,104,105,108,100]⟩:ByteArray))else(if a0=2 then(some (⟨#[100,101,115,99,101,110,100,97,110,116]⟩:ByteArray))else(if a0=3 then(some (⟨#[112,97,114,101,110,116]⟩:ByteArray))else(if a0=4 then(some (⟨#[97,110,99,101,115,116,111,114]⟩:ByteArray))else(if a0=5 then(some (⟨#[102,111,108,108,111,119,105,110,103,45,115,105,98,108,105,110,103]⟩:ByteArray))else(if a0=6 then(some (⟨#[112,114,101,99,101,100,105,110,103,45,115,105,98,108,105,110,103]⟩:ByteArray))else(if a0=7 then(some (⟨#[102,111,108,108,111,119,105,110,103]⟩:ByteArray))else(if a0=8 then(some (⟨#[112,114,101,99,101,100,105,110,103]⟩:ByteArray))else(if a0=9 then(some (⟨#[97,116,116,114,105,98,117,116,101]⟩:ByteArray))else(if a0=10 then(some (⟨#[115,101,108,102]⟩:ByteArray))else(if a0=11 then(some (⟨#[100,101,115,99,101,110,100,97,110,116,45,111,114,45,115,101,108,102]⟩:ByteArray))else(if a0=12 then(some (⟨#[97,110,99,101,115,116,111,114,45,111,114,45,115,101,108,102]⟩:ByteArray))else(some (⟨#[]⟩:ByteArray))))))))))))))=some r:=h;clear h;by_cases c2:a0=1
 ·rw [if_pos c2]at H;have c2b0:(a0 == 1)=true:=beq_iff_eq.mpr c2;have c2b1:(a0 !=1)=false:=bne_eq_false_iff_eq.mpr c2;clear c2;obtain rfl:=Az.inj H;go_enter Bu,Bw;go_wp2;go_ret;exact⟨zu,zx⟩
 ·rw [if_neg c2]at H;have c2b0:(a0 == 1)=false:=beq_eq_false_iff_ne.mpr c2;have c2b1:(a0 !=1)=true:=bne_iff_ne.mpr c2;by_cases c3:a0=2
  ·rw [if_pos c3]at H;have c3b0:(a0 == 2)=true:=beq_iff_eq.mpr c3;have c3b1:(a0 !=2)=false:=bne_eq_false_iff_eq.mpr c3;clear c3;obtain rfl:=Az.inj H;go_enter Bu,Bw;go_wp2;go_ret;exact⟨zu,zx⟩
  ·rw [if_neg c3]at H;have c3b0:(a0 == 2)=false:=beq_eq_false_iff_ne.mpr c3;have c3b1:(a0 !=2)=true:=bne_iff_ne.mpr c3;by_cases c4:a0=3
   ·rw [if_pos c4]at H;have c4b0:(a0 == 3)=true:=beq_iff_eq.mpr c4;have c4b1:(a0 !=3)=false:=bne_eq_false_iff_eq.mpr c4;clear c4;obtain rfl:=Az.inj H;go_enter Bu,Bw;go_wp2;go_ret;exact⟨zu,zx⟩
   ·rw [if_neg c4]at H;have c4b0:(a0 == 3)=false:=beq_eq_false_iff_ne.mpr c4;have c4b1:(a0 !=3)=true:=bne_iff_ne.mpr c4;by_cases c5:a0=4
    ·rw [if_pos c5]at H;have c5b0:(a0 == 4)=true:=beq_iff_eq.mpr c5;have c5b1:(a0 !=4)=false:=bne_eq_false_iff_eq.mpr c5;clear c5;obtain rfl:=Az.inj H;go_enter Bu,Bw;go_wp2;go_ret;exact⟨zu,zx⟩
    ·rw [if_neg c5]at H;have c5b0:(a0 == 4)=false:=beq_eq_false_iff_ne.mpr c5;have c5b1:(a0 !=4)=true:=bne_iff_ne.mpr c5;by_cases c6:a0=5
     ·rw [if_pos c6]at H;have c6b0:(a0 == 5)=true:=beq_iff_eq.mpr c6;have c6b1:(a0 !=5)=false:=bne_eq_false_iff_eq.mpr c6;clear c6;obtain rfl:=Az.inj H;go_enter Bu,Bw;go_wp2;go_ret;exact⟨zu,zx⟩
     ·rw [if_neg c6]at H;have c6b0:(a0 == 5)=false:=beq_eq_false_iff_ne.mpr c6;have c6b1:(a0 !=5)=true:=bne_iff_ne.mpr c6;by_cases c7:a0=6
      ·rw [if_pos c7]at H;have c7b0:(a0 == 6)=true:=beq_iff_eq.mpr c7;have c7b1:(a0 !=6)=false:=bne_eq_false_iff_eq.mpr c7;clear c7;obtain rfl:=Az.inj H;go_enter Bu,Bw;go_wp2;go_ret;exact⟨zu,zx⟩
      ·rw [if_neg c7]at H;have c7b0:(a0 == 6)=false:=beq_eq_false_iff_ne.mpr c7;have c7b1:(a0 !=6)=true:=bne_iff_ne.mpr c7;by_cases c8:a0=7
       ·rw [if_pos c8]at H;have c8b0:(a0 == 7)=true:=beq_iff_eq.mpr c8;have c8b1:(a0 !=7)=false:=bne_eq_false_iff_eq.mpr c8;clear c8;obtain rfl:=Az.inj H;go_enter Bu,Bw;go_wp2;go_ret;exact⟨zu,zx⟩
       ·rw [if_neg c8]at H;have c8b0:(a0 == 7)=false:=beq_eq_false_iff_ne.mpr c8;have c8b1:(a0 !=7)=true:=bne_iff_ne.mpr c8;by_cases c9:a0=8
        ·rw [if_pos c9]at H;have c9b0:(a0 == 8)=true:=beq_iff_eq.mpr c9;have c9b1:(a0 !=8)=false:=bne_eq_false_iff_eq.mpr c9;clear c9;obtain rfl:=Az.inj H;go_enter Bu,Bw;go_wp2;go_ret;exact⟨zu,zx⟩
        ·rw [if_neg c9]at H;have c9b0:(a0 == 8)=false:=beq_eq_false_iff_ne.mpr c9;have c9b1:(a0 !=8)=true:=bne_iff_ne.mpr c9;by_cases c10:a0=9
         ·rw [if_pos c10]at H;have c10b0:(a0 == 9)=true:=beq_iff_eq.mpr c10;have c10b1:(a0 !=9)=false:=bne_eq_false_iff_eq.mpr c10;clear c10;obtain rfl:=Az.inj H;go_enter Bu,Bw;go_wp2;go_ret;exact⟨zu,zx⟩
         ·rw [if_neg c10]at H;have c10b0:(a0 == 9)=false:=beq_eq_false_iff_ne.mpr c10;have c10b1:(a0 !=9)=true:=bne_iff_ne.mpr c10;by_cases c11:a0=10
          ·rw [if_pos c11]at H;have c11b0:(a0 == 10)=true:=beq_iff_eq.mpr c11;have c11b1:(a0 !=10)=false:=bne_eq_false_iff_eq.mpr c11;clear c11;obtain rfl:=Az.inj H;go_enter Bu,Bw;go_wp2;go_ret;exact⟨zu,zx⟩
          ·rw [if_neg c11]at H;have c11b0:(a0 == 10)=false:=beq_eq_false_iff_ne.mpr c11;have c11b1:(a0 !=10)=true:=bne_iff_ne.mpr c11;by_cases c12:a0=11
           ·rw [if_pos c12]at H;have c12b0:(a0 == 11)=true:=beq_iff_eq.mpr c12;have c12b1:(a0 !=11)=false:=bne_eq_false_iff_eq.mpr c12;clear c12;obtain rfl:=Az.inj H;go_enter Bu,Bw;go_wp2;go_ret;exact⟨zu,zx⟩
           ·rw [if_neg c12]at H;have c12b0:(a0 == 11)=false:=beq_eq_false_iff_ne.mpr c12;have c12b1:(a0 !=11)=true:=bne_iff_ne.mpr c12;by_cases c13:a0=12
            ·rw [if_pos c13]at H;have c13b0:(a0 == 12)=true:=beq_iff_eq.mpr c13;have c13b1:(a0 !=12)=false:=bne_eq_false_iff_eq.mpr c13;clear c13;obtain rfl:=Az.inj H;go_enter Bu,Bw;go_wp2;go_ret;exact⟨zu,zx⟩
            ·rw [if_neg c13]at H;have c13b0:(a0 == 12)=false:=beq_eq_false_iff_ne.mpr c13;have c13b1:(a0 !=12)=true:=bne_iff_ne.mpr c13;obtain rfl:=Az.inj H;go_enter Bu,Bw;go_wp2;go_ret;exact⟨zu,zx⟩
def axis_Of.l0:Nat→ByteArray→Int→Option (Int)
 | 0,_,_=>none
 | k+1,x0,x3=>if x3≤12 then((axis_Name.f x3).bind fun t101=>(if t101.toList=x0.toList then(some x3)else(axis_Of.l0 k x0 (wrap64 (x3+1)))))else(some 0)
def axis_Of.f (k:Nat) (a0:ByteArray):Option (Int):=axis_Of.l0 k a0 1
theorem axis_Of.calls (k:Nat) (a0:ByteArray) (r:Int) (w:World) (h:axis_Of.f k a0=some r) :
  Calls Am 215 #[Ac a0] w fun e w'=>e= .returned (Aa Ab r)∧Drawn0 w w':=by
 have H:(axis_Of.l0 k a0 1)=some r:=h;clear h;have H':=Aside0.mk H;clear H;go_enter Tryz.func215,Tryz.ntmps215;go_wp2;go_loopg [3] k (fun kq v3 w'=>∃ (x3_1:Int),v3= Aa Ab x3_1∧Aside0 (axis_Of.l0 kq a0 x3_1=some r)∧Aside0 (kq≤k)∧Drawn0 w w')
 case atStart=>exact⟨(1),zu,H',⟨Ag _⟩,zx⟩
 case round=>
  clear H';obtain⟨x3_1,rfl,HA,HK1,⟨m1,rfl⟩⟩:=hrel
  cases gk with
  | zero=>exact absurd HA.out (by simp [axis_Of.l0])
  | succ k1=>
   have H:=HA.out;clear HA;simp only [axis_Of.l0]at H;by_cases c2:x3_1≤12
   ·rw [if_pos c2]at H;have c2b0:decide (x3_1≤12)=true:=decide_eq_true c2;clear c2;replace H:=AD.mp H;obtain⟨t101,A30,H⟩:=H;replace H:(if t101.toList=a0.toList then(some x3_1)else(axis_Of.l0 k1 a0 (wrap64 (x3_1+1))))=some r:=H;have A3:=Aside0.mk A30;clear A30;by_cases c4:t101.toList=a0.toList
    ·rw [if_pos c4]at H;have c4b0:(t101.toList == a0.toList)=true:=beq_iff_eq.mpr c4;have c4b1:(t101.toList !=a0.toList)=false:=bne_eq_false_iff_eq.mpr c4;clear c4;obtain rfl:=Az.inj H;go_wp2_with (first | ((with_reducible refine qc1 (f:=140) rfl ?_);refine qs2 (some 9) rfl rfl Bu zr rfl #[Aa Ab x3_1] rfl zp ?_;(with_reducible refine(axis_Name.calls x3_1 t101 _ A3.out).mono ?_);rintro e w' ⟨rfl,⟨nd,rfl⟩⟩;refine⟨_,rfl,?_⟩))
     go_ret;exact⟨zu,zx⟩
    ·rw [if_neg c4]at H;have c4b0:(t101.toList == a0.toList)=false:=beq_eq_false_iff_ne.mpr c4;have c4b1:(t101.toList !=a0.toList)=true:=bne_iff_ne.mpr c4;have H':=Aside0.mk H;clear H;go_wp2_with (first | ((with_reducible refine qc1 (f:=140) rfl ?_);refine qs2 (some 9) rfl rfl Bu zr rfl #[Aa Ab x3_1] rfl zp ?_;(with_reducible refine(axis_Name.calls x3_1 t101 _ A3.out).mono ?_);rintro e w' ⟨rfl,⟨nd,rfl⟩⟩;refine⟨_,rfl,?_⟩))
     go_roundg k1
     case measure=>have:=HK1.out;omega
     case rel=>exact⟨(wrap64 (x3_1+1)),zu,H',⟨by have:=HK1.out;omega⟩,zx⟩
   ·rw [if_neg c2]at H;have c2b0:decide (x3_1≤12)=false:=decide_eq_false c2;clear c2;obtain rfl:=Az.inj H;go_wp2;go_ret;exact⟨zu,zx⟩
mutual
def syntax_deep.l0:Nat→Int→List (S93)→Int→Int→Option (Bool)
 | 0,_,_,_,_=>none
 | k+1,x3,x6,x7,x8=>if x8<x7 then(if 0≤x8 then(if x8<(x6.length:Int)then(if((rd_T93 x6 x8).f0)=1 then(if((rd_T93 x6 x8).f1).toList=([40]:List UInt8)then(syntax_deep.j1 k x3 x6 x7 x8 ((rd_T93 x6 x8).f1) (((rd_T93 x6 x8).f1).toList == ([40]:List UInt8)))else(syntax_deep.j1 k x3 x6 x7 x8 ((rd_T93 x6 x8).f1) (((rd_T93 x6 x8).f1).toList == ([91]:List UInt8))))else(syntax_deep.l0 k x3 x6 x7 (wrap64 (x8+1))))else(none))else(none))else(some false)
def syntax_deep.j1:Nat→Int→List (S93)→Int→Int→ByteArray→Bool→Option (Bool)
 | 0,_,_,_,_,_,_=>none
 | k+1,x3,x6,x7,x8,x16,x17=>if x17=true then(if(wrap64 (x3+1))>12 then(some true)else(syntax_deep.l0 k (wrap64 (x3+1)) x6 x7 (wrap64 (x8+1))))else(if x16.toList=([41]:List UInt8)then(syntax_deep.j2 k x3 x6 x7 x8 (x16.toList == ([41]:List UInt8)))else(syntax_deep.j2 k x3 x6 x7 x8 (x16.toList == ([93]:List UInt8))))
def syntax_deep.j2:Nat→Int→List (S93)→Int→Int→Bool→Option (Bool)
 | 0,_,_,_,_,_=>none
 | k+1,x3,x6,x7,x8,x22=>if x22=true then(if(mx (wrap64 (x3 - 1)) 0)>12 then(some true)else(syntax_deep.l0 k (mx (wrap64 (x3 - 1)) 0) x6 x7 (wrap64 (x8+1))))else(if x3>12 then(some true)else(syntax_deep.l0 k x3 x6 x7 (wrap64 (x8+1))))
end
def syntax_deep.f (k:Nat) (l0:List (S93)):Option (Bool):=syntax_deep.l0 k 0 l0 (l0.length:Int) 0
theorem syntax_deep.calls (k:Nat) (A0:Option Addr) (c0:Nat) (l0:List (S93)) (r:Bool) (w:World) (hr0:Kd.C k93 w A0 l0.length l0) (hc0:l0.length≤c0) (h:syntax_deep.f k l0=some r) :
  Calls Am 25 #[Ad A0 l0.length c0] w fun e w'=>e= .returned (Ae r)∧Below w.heap.size w w':=by
 have hu93:=Tryz.underlying93;have HR0:=Aside0.mk hr0;have HC0:=Aside0.mk hc0;clear hr0 hc0;have HB:=Aside0.mk (Ao w.heap.size w);have H:(syntax_deep.l0 k 0 l0 (l0.length:Int) 0)=some r:=h;clear h;have H':=Aside0.mk H;clear H;go_enter Tryz.func25,Tryz.ntmps25;go_wp2;go_loopg [3,8] k (fun kq v3 v8 w'=>∃ (x3_1:Int) (x8_1:Int),v3= Aa Ab x3_1∧v8= Aa Ab x8_1∧Aside0 (syntax_deep.l0 kq x3_1 l0 (l0.length:Int) x8_1=some r)∧Aside0 (kq≤k)∧Aside0 (Below w.heap.size w w'))
 case atStart=>exact⟨(0),(0),zu,zu,H',⟨Ag _⟩,⟨zo⟩⟩
 case round=>
  clear H';obtain⟨x3_1,x8_1,rfl,rfl,HA,HK1,HB⟩:=hrel
  cases gk with
  | zero=>exact absurd HA.out (by simp [syntax_deep.l0])
  | succ k1=>
   have H:=HA.out;clear HA;simp only [syntax_deep.l0]at H;by_cases c2:x8_1<(l0.length:Int)
   ·rw [if_pos c2]at H;have c2b0:decide (x8_1<(l0.length:Int))=true:=decide_eq_true c2;clear c2;by_cases c3:0≤x8_1
    ·rw [if_pos c3]at H;have c3b0:decide (0≤x8_1)=true:=decide_eq_true c3;clear c3;by_cases c4:x8_1<(l0.length:Int)
     ·rw [if_pos c4]at H;have c4b0:decide (x8_1<(l0.length:Int))=true:=decide_eq_true c4;clear c4;by_cases c5:((rd_T93 l0 x8_1).f0)=1
      ·rw [if_pos c5]at H;have c5b0:(((rd_T93 l0 x8_1).f0) == 1)=true:=beq_iff_eq.mpr c5;have c5b1:(((rd_T93 l0 x8_1).f0) !=1)=false:=bne_eq_false_iff_eq.mpr c5;clear c5;have HC6:=Aside0.mk H;clear H;have p106:0≤(x8_1:Int):=of_decide_eq_true za1;have q106:x8_1<(l0.length:Int):=of_decide_eq_true za1;obtain⟨ad106,e106,hx106_0,hx106_1,hx106_2,hx106_3⟩:=at_T93 HR0.out x8_1 p106 q106
       cases e106
       replace hx106_0:=(HB.out.cell (Br w _ hx106_0)).trans hx106_0;replace hx106_1:=(HB.out.cell (Br w _ hx106_1)).trans hx106_1;replace hx106_2:=(HB.out.cell (Br w _ hx106_2)).trans hx106_2;replace hx106_3:=(HB.out.cell (Br w _ hx106_3)).trans hx106_3;replace p106:=eq_true p106;replace q106:=eq_true q106;go_upto_if 17 with (first | ((with_reducible refine qb1 (N:=5) rfl ?_);refine qw ?hg (N:=5) ?hd (cs:= #[Aa Ab 0,Ac (⟨#[]⟩:ByteArray),Aa Ab 0,Aa Ab 0]) (t:=93) ?hr ?_;(case hd=>rfl);(case hg=>rfl);(case hr=>first | (go_simp;done) | (go_simp;rfl));intro gb107 hg w7 hbox hb;have BK107:=Aside0.mk (hbox);have GW107:=Aside0.mk ((by rw [hg];exact(qp zo):w.heap.size≤gb107));have GE107:=Aside0.mk ((by rw [hg];exact(qp zo):w.heap.size≤gb107));replace HB:=Aside0.mk (qr zo hb);clear hb hbox hg;have hcz8_0:w7.cell? ⟨gb107,0,none⟩=some (Aa Ab 0):=(qj BK107.out 0).trans rfl;have hcz8_1:w7.cell? ⟨gb107,1,none⟩=some (Ac (⟨#[]⟩:ByteArray)):=(qj BK107.out 1).trans rfl;have hcz8_2:w7.cell? ⟨gb107,2,none⟩=some (Aa Ab 0):=(qj BK107.out 2).trans rfl;have hcz8_3:w7.cell? ⟨gb107,3,none⟩=some (Aa Ab 0):=(qj BK107.out 3).trans rfl;have hfz8_0:=qc BK107.out 0;have hfz8_1:=qc BK107.out 1;have hfz8_2:=qc BK107.out 2;have hfz8_3:=qc BK107.out 3))
       (try simp only [AO,Ap,At,Au]);go_cut [17] (fun v17 wc=>∃ (kq:Nat) (x17_5:Bool),v17= Ae x17_5∧Aside0 (syntax_deep.j1 kq x3_1 l0 (l0.length:Int) x8_1 ((rd_T93 l0 x8_1).f1) x17_5=some r)∧Aside0 (kq≤k1)∧Aside0 (wc.heap[gb107]?=some (.cells #[Aa Ab ((rd_T93 l0 x8_1).f0),Ac ((rd_T93 l0 x8_1).f1),Aa Ab ((rd_T93 l0 x8_1).f2.f0),Aa Ab ((rd_T93 l0 x8_1).f2.f1)] 93 (0,0)))∧Aside0 (Below w.heap.size w wc))
       case first=>
        have H:=HC6.out;clear HC6;by_cases c9:((rd_T93 l0 x8_1).f1).toList=([40]:List UInt8)
        ·rw [if_pos c9]at H;have c9b0:(((rd_T93 l0 x8_1).f1).toList == ([40]:List UInt8))=true:=beq_iff_eq.mpr c9;have c9b1:(((rd_T93 l0 x8_1).f1).toList !=([40]:List UInt8))=false:=bne_eq_false_iff_eq.mpr c9;clear c9
         (first | rw [c9b0] | (simp only [qi1];rw [c9b0]) | skip)
         have H':=Aside0.mk H;clear H;go_wp2;go_meet
         case rel=>exact⟨_,((((rd_T93 l0 x8_1).f1).toList == ([40]:List UInt8))),zu,H',⟨zbi⟩,⟨zab⟩,⟨z8⟩⟩
        ·rw [if_neg c9]at H;have c9b0:(((rd_T93 l0 x8_1).f1).toList == ([40]:List UInt8))=false:=beq_eq_false_iff_ne.mpr c9;have c9b1:(((rd_T93 l0 x8_1).f1).toList !=([40]:List UInt8))=true:=bne_iff_ne.mpr c9
         (first | rw [c9b0] | (simp only [qi1];rw [c9b0]) | skip)
         have H':=Aside0.mk H;clear H;go_wp2;go_meet
         case rel=>exact⟨_,((((rd_T93 l0 x8_1).f1).toList == ([91]:List UInt8))),zu,H',⟨zbi⟩,⟨zab⟩,⟨z8⟩⟩
       case rest=>
        clear HC6
        try clear p1
        try clear q1
        try clear hx1
        try clear c2
        try clear c2b0
        try clear p2
        try clear c3
        try clear c3b0
        try clear c4
        try clear c4b0
        try clear c5
        try clear c5b0
        try clear c5b1
        try clear c9
        try clear c9b0
        try clear c9b1
        try clear hcz8_0
        try clear hcz8_1
        try clear hcz8_2
        try clear hcz8_3
        try clear hfz8_0
        try clear hfz8_1
        try clear hfz8_2
        try clear hfz8_3
        try clear hx106_0
        try clear hx106_1
        try clear hx106_2
        try clear hx106_3
        try clear p106
        try clear q106
        obtain⟨kq,x17_5,rfl,HA,HJ5,BK107,HB⟩:=hcut
        cases kq with
        | zero=>exact absurd HA.out (by simp [syntax_deep.j1])
        | succ kj5=>
         have H:=HA.out;clear HA;simp only [syntax_deep.j1]at H;by_cases c10:x17_5=true
         ·subst c10;have H1:(if(wrap64 (x3_1+1))>12 then(some true)else(syntax_deep.l0 kj5 (wrap64 (x3_1+1)) l0 (l0.length:Int) (wrap64 (x8_1+1))))=some r:=by rw [if_pos rfl]at H;exact H
          clear H;have H:=H1;clear H1;by_cases c11:(wrap64 (x3_1+1))>12
          ·rw [if_pos c11]at H;have c11b0:decide (12<(wrap64 (x3_1+1)))=true:=decide_eq_true c11;clear c11;obtain rfl:=Az.inj H;go_wp2;go_ret;exact⟨zy,z8⟩
          ·rw [if_neg c11]at H;have c11b0:decide (12<(wrap64 (x3_1+1)))=false:=decide_eq_false c11;clear c11;have H':=Aside0.mk H;clear H;go_wp2;go_roundg kj5
           case measure=>have:=HK1.out;have:=HJ5.out;omega
           case rel=>exact⟨(wrap64 (x3_1+1)),(wrap64 (x8_1+1)),zu,zu,H',⟨by have:=HK1.out;have:=HJ5.out;omega⟩,⟨z8⟩⟩
         ·replace c10:=Bool.eq_false_iff.mpr c10;subst c10;have H1:(if((rd_T93 l0 x8_1).f1).toList=([41]:List UInt8)then(syntax_deep.j2 kj5 x3_1 l0 (l0.length:Int) x8_1 (((rd_T93 l0 x8_1).f1).toList == ([41]:List UInt8)))else(syntax_deep.j2 kj5 x3_1 l0 (l0.length:Int) x8_1 (((rd_T93 l0 x8_1).f1).toList == ([93]:List UInt8))))=some r:=by rw [if_neg (show ¬ (false=true) by decide)]at H;exact H
          clear H;have H:=H1;clear H1;have HC12:=Aside0.mk H;clear H;go_upto_if 22 with (fail)
          go_cut [22] (fun v22 wc=>∃ (kq:Nat) (x22_11:Bool),v22= Ae x22_11∧Aside0 (syntax_deep.j2 kq x3_1 l0 (l0.length:Int) x8_1 x22_11=some r)∧Aside0 (kq≤kj5)∧Aside0 (wc.heap[gb107]?=some (.cells #[Aa Ab ((rd_T93 l0 x8_1).f0),Ac ((rd_T93 l0 x8_1).f1),Aa Ab ((rd_T93 l0 x8_1).f2.f0),Aa Ab ((rd_T93 l0 x8_1).f2.f1)] 93 (0,0)))∧Aside0 (Below w.heap.size w wc))
          case first=>
           have H:=HC12.out;clear HC12;by_cases c13:((rd_T93 l0 x8_1).f1).toList=([41]:List UInt8)
           ·rw [if_pos c13]at H;have c13b0:(((rd_T93 l0 x8_1).f1).toList == ([41]:List UInt8))=true:=beq_iff_eq.mpr c13;have c13b1:(((rd_T93 l0 x8_1).f1).toList !=([41]:List UInt8))=false:=bne_eq_false_iff_eq.mpr c13;clear c13
            (first | rw [c13b0] | (simp only [qi1];rw [c13b0]) | skip)
            have H':=Aside0.mk H;clear H;go_wp2;go_meet
            case rel=>exact⟨_,((((rd_T93 l0 x8_1).f1).toList == ([41]:List UInt8))),zu,H',⟨by have:=HK1.out;have:=HJ5.out;first | omega | exact Ag _⟩,⟨by(with_reducible repeat(first | refine qd ?_ _ | refine qe ?_ | refine qa ?_ _));exact BK107.out⟩,⟨z8⟩⟩
           ·rw [if_neg c13]at H;have c13b0:(((rd_T93 l0 x8_1).f1).toList == ([41]:List UInt8))=false:=beq_eq_false_iff_ne.mpr c13;have c13b1:(((rd_T93 l0 x8_1).f1).toList !=([41]:List UInt8))=true:=bne_iff_ne.mpr c13
            (first | rw [c13b0] | (simp only [qi1];rw [c13b0]) | skip)
            have H':=Aside0.mk H;clear H;go_wp2;go_meet
            case rel=>exact⟨_,((((rd_T93 l0 x8_1).f1).toList == ([93]:List UInt8))),zu,H',⟨by have:=HK1.out;have:=HJ5.out;first | omega | exact Ag _⟩,⟨by(with_reducible repeat(first | refine qd ?_ _ | refine qe ?_ | refine qa ?_ _));exact BK107.out⟩,⟨z8⟩⟩
          case rest=>
           clear HC12
           try clear c1
           try clear p1
           try clear q1
           try clear hx1
           try clear c2
           try clear c2b0
           try clear p2
           try clear c3
           try clear c3b0
           try clear c4
           try clear c4b0
           try clear c5
           try clear c5b0
           try clear c5b1
           try clear p6
           try clear c9
           try clear c9b0
           try clear c9b1
           try clear c10
           try clear p10
           try clear q10
           try clear hx10
           try clear c11
           try clear c11b0
           try clear c13
           try clear c13b0
           try clear c13b1
           try clear hcz8_0
           try clear hcz8_1
           try clear hcz8_2
           try clear hcz8_3
           try clear hfz8_0
           try clear hfz8_1
           try clear hfz8_2
           try clear hfz8_3
           try clear hx106_0
           try clear hx106_1
           try clear hx106_2
           try clear hx106_3
           try clear p1
           try clear p106
           try clear p2
           try clear q1
           try clear q106
           obtain⟨kq,x22_11,rfl,HA,HJ11,BK107,HB⟩:=hcut
           cases kq with
           | zero=>exact absurd HA.out (by simp [syntax_deep.j2])
           | succ kj11=>
            have H:=HA.out;clear HA;simp only [syntax_deep.j2]at H;by_cases c14:x22_11=true
            ·subst c14;have H1:(if(mx (wrap64 (x3_1 - 1)) 0)>12 then(some true)else(syntax_deep.l0 kj11 (mx (wrap64 (x3_1 - 1)) 0) l0 (l0.length:Int) (wrap64 (x8_1+1))))=some r:=by rw [if_pos rfl]at H;exact H
             clear H;have H:=H1;clear H1;obtain⟨ji15,hji15⟩:∃ j_:Int,(mx (wrap64 (x3_1 - 1)) 0)=j_:=⟨_,rfl⟩;replace H:(if(ji15)>12 then(some true)else(syntax_deep.l0 kj11 ji15 l0 (l0.length:Int) (wrap64 (x8_1+1))))=some r:=by first | (rw [hji15]at H;exact H) | (simp only [hji15]at H ⊢;exact H)
             have hji15_:(if(wrap64 (x3_1 - 1))<0 then 0 else(wrap64 (x3_1 - 1)))=ji15:=hji15;by_cases c16:(ji15)>12
             ·rw [if_pos c16]at H;have c16b0:decide (12<(ji15))=true:=decide_eq_true c16;clear c16;obtain rfl:=Az.inj H;go_wp2;go_ret;exact⟨by first | rfl | (simp [ ]<;>rfl) | (simp only [← hji15];first | rfl | (simp [ ]<;>rfl)) | (simp [*]<;>rfl),z8⟩
             ·rw [if_neg c16]at H;have c16b0:decide (12<(ji15))=false:=decide_eq_false c16;clear c16;have H':=Aside0.mk H;clear H;go_wp2;go_roundg kj11
              case measure=>have:=HK1.out;have:=HJ5.out;have:=HJ11.out;omega
              case rel=>exact⟨(ji15),(wrap64 (x8_1+1)),(by first | rfl | (simp;done) | (simp only [← hji15]<;>(first | rfl | simp)) | (simp [*];done)),zu,H',⟨by have:=HK1.out;have:=HJ5.out;have:=HJ11.out;omega⟩,⟨z8⟩⟩
            ·replace c14:=Bool.eq_false_iff.mpr c14;subst c14;have H1:(if x3_1>12 then(some true)else(syntax_deep.l0 kj11 x3_1 l0 (l0.length:Int) (wrap64 (x8_1+1))))=some r:=by rw [if_neg (show ¬ (false=true) by decide)]at H;exact H
             clear H;have H:=H1;clear H1;by_cases c17:x3_1>12
             ·rw [if_pos c17]at H;have c17b0:decide (12<x3_1)=true:=decide_eq_true c17;clear c17;obtain rfl:=Az.inj H;go_wp2;go_ret;exact⟨zy,z8⟩
             ·rw [if_neg c17]at H;have c17b0:decide (12<x3_1)=false:=decide_eq_false c17;clear c17;have H':=Aside0.mk H;clear H;go_wp2;go_roundg kj11
              case measure=>have:=HK1.out;have:=HJ5.out;have:=HJ11.out;omega
              case rel=>exact⟨(x3_1),(wrap64 (x8_1+1)),zu,zu,H',⟨by have:=HK1.out;have:=HJ5.out;have:=HJ11.out;omega⟩,⟨z8⟩⟩
      ·rw [if_neg c5]at H;have c5b0:(((rd_T93 l0 x8_1).f0) == 1)=false:=beq_eq_false_iff_ne.mpr c5;have c5b1:(((rd_T93 l0 x8_1).f0) !=1)=true:=bne_iff_ne.mpr c5;have H':=Aside0.mk H;clear H;have p106:0≤(x8_1:Int):=of_decide_eq_true za1;have q106:x8_1<(l0.length:Int):=of_decide_eq_true za1;obtain⟨ad106,e106,hx106_0,hx106_1,hx106_2,hx106_3⟩:=at_T93 HR0.out x8_1 p106 q106
       cases e106
       replace hx106_0:=(HB.out.cell (Br w _ hx106_0)).trans hx106_0;replace hx106_1:=(HB.out.cell (Br w _ hx106_1)).trans hx106_1;replace hx106_2:=(HB.out.cell (Br w _ hx106_2)).trans hx106_2;replace hx106_3:=(HB.out.cell (Br w _ hx106_3)).trans hx106_3;replace p106:=eq_true p106;replace q106:=eq_true q106;go_wp2_with (first | ((with_reducible refine qb1 (N:=5) rfl ?_);refine qw ?hg (N:=5) ?hd (cs:= #[Aa Ab 0,Ac (⟨#[]⟩:ByteArray),Aa Ab 0,Aa Ab 0]) (t:=93) ?hr ?_;(case hd=>rfl);(case hg=>rfl);(case hr=>first | (go_simp;done) | (go_simp;rfl));intro gb107 hg w18 hbox hb;have BK107:=Aside0.mk (hbox);have GW107:=Aside0.mk ((by rw [hg];exact(qp zo):w.heap.size≤gb107));have GE107:=Aside0.mk ((by rw [hg];exact(qp zo):w.heap.size≤gb107));replace HB:=Aside0.mk (qr zo hb);clear hb hbox hg;have hcz19_0:w18.cell? ⟨gb107,0,none⟩=some (Aa Ab 0):=(qj BK107.out 0).trans rfl;have hcz19_1:w18.cell? ⟨gb107,1,none⟩=some (Ac (⟨#[]⟩:ByteArray)):=(qj BK107.out 1).trans rfl;have hcz19_2:w18.cell? ⟨gb107,2,none⟩=some (Aa Ab 0):=(qj BK107.out 2).trans rfl;have hcz19_3:w18.cell? ⟨gb107,3,none⟩=some (Aa Ab 0):=(qj BK107.out 3).trans rfl;have hfz19_0:=qc BK107.out 0;have hfz19_1:=qc BK107.out 1;have hfz19_2:=qc BK107.out 2;have hfz19_3:=qc BK107.out 3))
       go_roundg k1
       case measure=>have:=HK1.out;omega
       case rel=>exact⟨(x3_1),(wrap64 (x8_1+1)),zu,zu,H',⟨by have:=HK1.out;omega⟩,⟨z8⟩⟩
     ·rw [if_neg c4]at H;exact absurd H (by simp)
    ·rw [if_neg c3]at H;exact absurd H (by simp)
   ·rw [if_neg c2]at H;have c2b0:decide (x8_1<(l0.length:Int))=false:=decide_eq_false c2;clear c2;obtain rfl:=Az.inj H;go_wp2;go_ret;exact⟨zy,zo⟩
end Go.Proofs.YtocdckniokhbbaaGreatDoor.PS
