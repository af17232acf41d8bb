import Derived.Test.YtocdckniokhbbaaGreatDoorZkFc
import Derived.Test.YtocdckniokhbbaaGreatDoorZkSynW
import Derived.Test.YtocdckniokhbbaaGreatDoorZkRfA
import Derived.Test.YtocdckniokhbbaaGreatDoorZkPSx0
set_option linter.unusedVariables false
set_option linter.unusedSimpArgs false
open Go.Value renaming string→Ac,bool→Ae,int→Aa,slice→Ad
open Go.Proofs.Tryz renaming prog→Aj
open Prod.mk renaming injEq→AU
open Go.IntKind renaming i64→Ab
open Go.Obj renaming cells→Af
open Go.RowKit.Below renaming setCell→Au,alloc→AD,drew→AQ,size→Cb
open Or renaming inl→Bv
open Go.ByteArray renaming toList_eq→Aq
set_option maxHeartbeats 8000000
set_option maxRecDepth 100000
namespace Go.Proofs.YtocdckniokhbbaaGreatDoor.Syn
open Go.RowKit Go.Shelf YtocdckniokhbbaaGreatDoorW.PrintWords YtocdckniokhbbaaGreatDoorW.PrintLast YtocdckniokhbbaaGreatDoorW.PrintMore CharB SpanA FigD LexA LexF FigI
def qr8:Prop:=∀ (s:ByteArray) (w:World),qz5 w→s.size≤9223372036854775807→Calls Aj 22 #[Ac s] w (ComR w (qy1 s.data.toList).1 (qy1 s.data.toList).2.1 (qy1 s.data.toList).2.2)
theorem qt15:qr8:=fun s w hT hs=>qp13 (fun s w hT hs=>qn16 s w hT hs) (fun bt be w t0 e0 n hne ht he=>catch_C bt be w t0 e0 n hne ht he) (fun bt be w=>qv14 bt be w) s w hT hs (qf19 _)
theorem com_t1:(qy1 [99,111,117,110,116,40,47,47,97,41,32,43,32,49]).2=(3,0):=by decide +kernel
theorem com_t2:(qy1 [99,111,117,110,116,40,49,41]).2=(0,35):=by decide +kernel
theorem qn17 (HC:qr8) (w:World) (hT:qz5 w):Calls Aj 19 #[] w fun e w'=>e= .returned (Ae true)∧Below w.heap.size w w':=by
 have cc1:=HC ⟨#[99,111,117,110,116,40,47,47,97,41,32,43,32,49]⟩ w hT (by show 14≤_;omega);rw [show(⟨#[99,111,117,110,116,40,47,47,97,41,32,43,32,49]⟩:ByteArray).data.toList= [99,111,117,110,116,40,47,47,97,41,32,43,32,49]from rfl]at cc1;have e1:=com_t1;generalize qy1 [99,111,117,110,116,40,47,47,97,41,32,43,32,49]=R1 at *;obtain⟨x1,t1,n1⟩:=R1;simp only [AU]at e1;obtain⟨rfl,rfl⟩:=e1;have cc2:Aside0 (∀ W,Below w.heap.size w W→Calls Aj 22 #[Ac ⟨#[99,111,117,110,116,40,49,41]⟩] W (ComR W (qy1 [99,111,117,110,116,40,49,41]).1 (qy1 [99,111,117,110,116,40,49,41]).2.1 (qy1 [99,111,117,110,116,40,49,41]).2.2)):=⟨fun W hb=>HC ⟨#[99,111,117,110,116,40,49,41]⟩ W (qj1 hT hb) (by show 8≤_;omega)⟩;rw [com_t2]at cc2;clear hT HC;go_enter Tryz.func19,Tryz.ntmps19;go_wp2_with fail
 refine cc1.mono ?_;rintro e w1 ⟨u,rfl,hE,b1⟩;obtain⟨F,op',s',d',t',b',A1,n1,c1,A2,n2,c2,rfl,hR',hF⟩:=hE.open;have HB:=Aside0.mk b1;clear b1 hE hR' hF;have Hz:=Aside0.mk (qr w1 (Af #[Aa Ab 0,Ac ⟨#[]⟩,Aa Ab 0,Aa Ab 0,Ae false,Ad none 0 0,Ad none 0 0] 28));obtain⟨zc0,zc1,zc2,zc3,zc4,zc5,zc6,zf0,zf1,zf2,zf3,zf4,zf5,zf6⟩:=fd7 Hz.out;go_wp2_with fail
 refine(cc2.out _ (by(repeat' (with_reducible first | exact HB.out | refine AQ ?_ | refine AD ?_ ?_ _ | refine Au ?_ ?_ _))<;>exact HB.out.size)).mono ?_;rintro e w2 ⟨u2,rfl,hE2,b2⟩;obtain⟨F,op',s',d',t',b',A1,n1,c1,A2,n2,c2,rfl,hR2,hF2⟩:=hE2.open;have HB2:=Aside0.mk ((HB.out.alloc HB.out.size _).trans (b2.mono (Cb (HB.out.alloc HB.out.size _))));clear b2 hE2 hR2 hF2;go_wp2_with fail
 go_ret;exact⟨rfl,HB2.out.alloc HB2.out.size _⟩
theorem qg24 (R:Option (Int × Int × Bool × Int)):∃ l m n t i,qj17 R= .tuple #[.agg #[Aa Ab l,Aa Ab m,Ae n,Aa Ab t],Ae i]:=by
 cases R with
 | none=>exact⟨_,_,_,_,_,rfl⟩
 | some f=>exact⟨_,_,_,_,_,rfl⟩
theorem qn14 (HC:qr8) (s:ByteArray) (w:World) (hT:qz5 w):Calls Aj 7 #[Ac s] w fun e w'=>e= .returned (Ae true)∧Below w.heap.size w w':=by
 have hw:=Aside0.mk (fun W (hb:Below w.heap.size w W)=>qn17 HC W (qj1 hT hb));have c1:=qj13 s w;have c2:=Aside0.mk (fun W=>qq10 s W);generalize ql2 s.toList=R at *;clear hT HC;obtain⟨l,m,n,t,i,hR⟩:=qg24 R;rw [hR]at c1;simp only [hR]at c2;clear hR;go_enter Tryz.func7,Tryz.ntmps7;go_wp2_with fail
 refine c1.mono ?_;rintro e w1 ⟨rfl,b1⟩;have HB:=Aside0.mk b1;clear b1;have HA:=Aside0.mk (qr w1 (Af #[Aa Ab l,Aa Ab m,Ae n,Aa Ab t] 42));go_wp2_with fail
 refine(c2.out _).mono ?_;rintro e w2 ⟨rfl,b2⟩;have HB2:=Aside0.mk ((HB.out.alloc HB.out.size _).trans (b2.mono (Cb (HB.out.alloc HB.out.size _))));have HA2:=Aside0.mk (qb (qn HA.out b2) (Af #[Aa Ab l,Aa Ab m,Ae n,Aa Ab t] 42));have HN2:=Aside0.mk (qr w2 (Af #[Aa Ab l,Aa Ab m,Ae n,Aa Ab t] 42));clear b2 HA;obtain⟨ac0,ac1,ac2,ac3⟩:=fc4 HA2.out;obtain⟨bc0,bc1,bc2,bc3⟩:=fc4 HN2.out;go_wp2_with fail
 refine(hw.out _ (HB2.out.alloc HB2.out.size _)).mono ?_;rintro e w9 ⟨rfl,b9⟩;have HB9:=Aside0.mk ((HB2.out.alloc HB2.out.size _).trans (b9.mono (Cb (HB2.out.alloc HB2.out.size _))));clear b9;go_wp2_with fail
 go_ret;exact⟨rfl,HB9.out⟩
theorem qy3 {α β:Type} {x:Except Int α} {f:α→Except Int β} {n:Int} (h:x.bind f= .error n):x= .error n∨ ∃ a,x= .ok a∧f a= .error n:=by
 cases x with
 | error m=>exact .inl (by cases (show(Except.error m:Except Int β)= .error n from h);rfl)
 | ok a=>exact .inr ⟨a,rfl,h⟩
mutual
theorem tE0:∀ (e:Ex) (k:Nat) (n:Int),qw1 e k= .error n→n≠0
 | .mk op s v t abs kids steps,k,n,h=>by
  unfold qw1 at h
  split at h
  ·cases h;decide
  ·split at h
   ·split at h
    ·cases h;decide
    ·split at h
     ·cases h;decide
     ·rcases qy3 h with h | ⟨ts,_,h⟩
      ·exact tsE0 kids k n h
      ·split at h
       ·cases h;decide
       ·cases h
   ·split at h
    ·exact fE0 kids k n h
    ·rcases qy3 h with h | ⟨ts,_,h⟩
     ·exact tsE0 kids k n h
     ·split at h
      ·cases h;decide
      ·rcases qy3 h with h | ⟨_,_,h⟩
       ·exact ssE0 steps k n h
       ·cases h
theorem fE0:∀ (l:List Ex) (k:Nat) (n:Int),qc8 l k= .error n→n≠0
 | [],k,n,h=>by unfold qc8 at h;cases h
 | e :: l,k,n,h=>by
  unfold qc8 at h
  rcases qy3 h with h | ⟨t,_,h⟩
  ·exact tE0 e k n h
  ·split at h
   ·rcases qy3 h with h | ⟨_,_,h⟩
    ·exact psE0 l k n h
    ·cases h
   ·cases h;decide
theorem tsE0:∀ (l:List Ex) (k:Nat) (n:Int),qy2 l k= .error n→n≠0
 | [],k,n,h=>by unfold qy2 at h;cases h
 | e :: l,k,n,h=>by
  unfold qy2 at h
  rcases qy3 h with h | ⟨t,_,h⟩
  ·exact tE0 e k n h
  ·rcases qy3 h with h | ⟨_,_,h⟩
   ·exact tsE0 l k n h
   ·cases h
theorem psE0:∀ (l:List Ex) (k:Nat) (n:Int),qz3 l k= .error n→n≠0
 | [],k,n,h=>by unfold qz3 at h;cases h
 | e :: l,k,n,h=>by
  unfold qz3 at h
  split at h
  ·cases h;decide
  ·rcases qy3 h with h | ⟨_,_,h⟩
   ·exact tE0 e (k+1) n h
   ·exact psE0 l k n h
theorem ssE0:∀ (l:List St) (k:Nat) (n:Int),qu2 l k= .error n→n≠0
 | [],k,n,h=>by unfold qu2 at h;cases h
 | .mk _ _ _ _ preds :: l,k,n,h=>by
  unfold qu2 at h
  rcases qy3 h with h | ⟨_,_,h⟩
  ·exact psE0 preds k n h
  ·exact ssE0 l k n h
end
theorem qt14 (s:List UInt8) (h:(qy1 s).2.2≠0):(qy1 s).2.1=0:=by
 unfold qy1 at h ⊢
 split
 ·split
  ·rename_i h1 h2;rw [if_pos h1,if_pos h2]at h;exact absurd rfl h
  ·rfl
 ·rfl
theorem qo13 (s:List UInt8) (h:(qy1 s).2.2=0):(qy1 s).2.1=qx17 (qy1 s).1:=by
 unfold qy1 at h ⊢
 split
 ·split
  ·rename_i h1 h2
   show(qk11 (qf3 s).1).1=qx17 (qf3 s).1;generalize (qf3 s).1=x at *;unfold qk11 at h2 ⊢
   split
   ·rename_i hr
    rw [if_pos hr]at h2
    cases ht:qw1 x 0 with
    | ok t=>exact qa18 hr ht
    | error n=>rw [ht]at h2;exact absurd h2 (tE0 x 0 n ht)
   ·rename_i hr;rw [if_neg hr]at h2;exact absurd h2 (by decide)
  ·rename_i h1 h2;rw [if_pos h1,if_neg h2]at h;exact absurd h h2
 ·rename_i h1;rw [if_neg h1]at h;exact absurd h h1
theorem qm14 (HC:qr8) (s:ByteArray) (w:World) (hT:qz5 w) (hs:s.size≤9223372036854775807):Calls Aj 10 #[Ac s] w fun e w'=>e= .returned (Ae true)∧Below w.heap.size w w':=by
 have hw:=Aside0.mk (fun W (hb:Below w.heap.size w W)=>qn17 HC W (qj1 hT hb));have k1:=qt14 s.data.toList;have k2:=qo13 s.data.toList;have cc1:=HC s w hT hs;generalize qy1 s.data.toList=R at *;clear hT HC hs;obtain⟨x,t,n⟩:=R;dsimp only at k1 k2 cc1;by_cases hn:n=0
 ·skip
  subst hn;have ht:=k2 rfl;clear k1 k2;go_enter Tryz.func10,Tryz.ntmps10;go_wp2_with fail
  refine cc1.mono ?_;rintro e w1 ⟨v,rfl,hE,b1⟩;obtain⟨F,op',s',d',t',b',A1,n1,c1,A2,n2,c2,rfl,hR',hF⟩:=hE.open;obtain⟨op,sx,vx,nx,ax,kx,stx⟩:=x;obtain⟨rfl,rfl,_,_,_,_,_,_,_,_,_⟩:=hR'.inv;have HB:=Aside0.mk b1;have HX:=Aside0.mk (qr w1 (Af #[Aa Ab op',Ac (ba sx),Aa Ab d',Aa Ab t',Ae b',Ad A1 n1 c1,Ad A2 n2 c2] 28));obtain⟨ec0,ec1,ec2,ec3,ec4,ec5,ec6⟩:=fc7 HX.out;clear b1 hE hR' hF;simp only [qx17]at ht;by_cases ho8:op'≤8
  ·rw [if_pos ho8]at ht;have d8:decide (op'≤8)=true:=by simp;omega
   subst ht;clear ho8;go_wp2_with fail
   refine(hw.out _ (HB.out.alloc HB.out.size _)).mono ?_;rintro e w9 ⟨rfl,b9⟩;have HB9:=Aside0.mk ((HB.out.alloc HB.out.size _).trans (b9.mono (Cb (HB.out.alloc HB.out.size _))));clear b9;go_wp2_with fail
   go_ret;exact⟨rfl,HB9.out⟩
  rw [if_neg ho8]at ht;by_cases ho13:op'≤13
  ·rw [if_pos (Bv ho13)]at ht;have d8:decide (op'≤8)=false:=by simp;omega
   have d13:decide (op'≤13)=true:=by simp;omega
   subst ht;clear ho8 ho13;go_wp2_with fail
   refine(hw.out _ (HB.out.alloc HB.out.size _)).mono ?_;rintro e w9 ⟨rfl,b9⟩;have HB9:=Aside0.mk ((HB.out.alloc HB.out.size _).trans (b9.mono (Cb (HB.out.alloc HB.out.size _))));clear b9;go_wp2_with fail
   go_ret;exact⟨rfl,HB9.out⟩
  by_cases ho15:op'=15
  ·rw [if_pos (Or.inr (Bv ho15))]at ht;have d8:decide (op'≤8)=false:=by simp;omega
   have d13:decide (op'≤13)=false:=by simp;omega
   have d15:(op' == 15)=true:=by simp;omega
   subst ht;clear ho8 ho13 ho15;go_wp2_with fail
   refine(hw.out _ (HB.out.alloc HB.out.size _)).mono ?_;rintro e w9 ⟨rfl,b9⟩;have HB9:=Aside0.mk ((HB.out.alloc HB.out.size _).trans (b9.mono (Cb (HB.out.alloc HB.out.size _))));clear b9;go_wp2_with fail
   go_ret;exact⟨rfl,HB9.out⟩
  by_cases ho19:op'=19
  ·rw [if_pos (Or.inr (Or.inr ho19))]at ht;have d8:decide (op'≤8)=false:=by simp;omega
   have d13:decide (op'≤13)=false:=by simp;omega
   have d15:(op' == 15)=false:=by simp;omega
   have d19:(op' == 19)=true:=by simp;omega
   subst ht;clear ho8 ho13 ho15 ho19;go_wp2_with fail
   refine(hw.out _ (HB.out.alloc HB.out.size _)).mono ?_;rintro e w9 ⟨rfl,b9⟩;have HB9:=Aside0.mk ((HB.out.alloc HB.out.size _).trans (b9.mono (Cb (HB.out.alloc HB.out.size _))));clear b9;go_wp2_with fail
   go_ret;exact⟨rfl,HB9.out⟩
  rw [if_neg (by omega)]at ht;by_cases ho18:op'=18
  ·rw [if_pos ho18]at ht;have d8:decide (op'≤8)=false:=by simp;omega
   have d13:decide (op'≤13)=false:=by simp;omega
   have d15:(op' == 15)=false:=by simp;omega
   have d19:(op' == 19)=false:=by simp;omega
   have d18:(op' == 18)=true:=by simp;omega
   subst ht;clear ho8 ho13 ho15 ho19 ho18;go_wp2_with fail
   refine(hw.out _ (HB.out.alloc HB.out.size _)).mono ?_;rintro e w9 ⟨rfl,b9⟩;have HB9:=Aside0.mk ((HB.out.alloc HB.out.size _).trans (b9.mono (Cb (HB.out.alloc HB.out.size _))));clear b9;go_wp2_with fail
   go_ret;exact⟨rfl,HB9.out⟩
  rw [if_neg ho18]at ht;by_cases ho20:op'=20
  ·rw [if_pos ho20]at ht;have d8:decide (op'≤8)=false:=by simp;omega
   have d13:decide (op'≤13)=false:=by simp;omega
   have d15:(op' == 15)=false:=by simp;omega
   have d19:(op' == 19)=false:=by simp;omega
   have d18:(op' == 18)=false:=by simp;omega
   have d20:(op' == 20)=true:=by simp;omega
   have cc2:=Aside0.mk (fun W=>qq10 (ba sx) W);rw [show(ba sx).toList=sx by rw [Aq,qe1]]at cc2;obtain⟨l,m,nd,i,hR⟩:∃ l m n i,qj17 (ql2 sx)= .tuple #[.agg #[Aa Ab l,Aa Ab m,Ae n,Aa Ab t],Ae i]:=by rw [ht];cases ql2 sx with | none=>exact⟨_,_,_,_,rfl⟩ | some f=>exact⟨_,_,_,_,rfl⟩
   simp only [hR]at cc2;clear hR ht ho8 ho13 ho15 ho19 ho18 ho20;go_wp2_with fail
   refine(cc2.out _).mono ?_;rintro e w2 ⟨rfl,b2⟩;have HB2:=Aside0.mk ((HB.out.alloc HB.out.size _).trans (b2.mono (Cb (HB.out.alloc HB.out.size _))));have HN2:=Aside0.mk (qr w2 (Af #[Aa Ab l,Aa Ab m,Ae nd,Aa Ab t] 42));obtain⟨bc0,bc1,bc2,bc3⟩:=fc4 HN2.out;clear b2;go_wp2_with fail
   refine(hw.out _ (HB2.out.alloc HB2.out.size _)).mono ?_;rintro e w9 ⟨rfl,b9⟩;have HB9:=Aside0.mk ((HB2.out.alloc HB2.out.size _).trans (b9.mono (Cb (HB2.out.alloc HB2.out.size _))));clear b9;go_wp2_with fail
   go_ret;exact⟨rfl,HB9.out⟩
  rw [if_neg ho20]at ht;have d8:decide (op'≤8)=false:=by simp;omega
  have d13:decide (op'≤13)=false:=by simp;omega
  have d15:(op' == 15)=false:=by simp;omega
  have d19:(op' == 19)=false:=by simp;omega
  have d18:(op' == 18)=false:=by simp;omega
  have d20:(op' == 20)=false:=by simp;omega
  subst ht;clear ho8 ho13 ho15 ho19 ho18 ho20;go_wp2_with fail
  refine(hw.out _ (HB.out.alloc HB.out.size _)).mono ?_;rintro e w9 ⟨rfl,b9⟩;have HB9:=Aside0.mk ((HB.out.alloc HB.out.size _).trans (b9.mono (Cb (HB.out.alloc HB.out.size _))));clear b9;go_wp2_with fail
  go_ret;exact⟨rfl,HB9.out⟩
 ·skip
  have ht:=k1 hn;subst ht;have hn1:(n !=0)=true:=by simpa using hn
  have hn2:(n == 0)=false:=by simpa using hn
  clear k1 k2;go_enter Tryz.func10,Tryz.ntmps10;go_wp2_with fail
  refine cc1.mono ?_;rintro e w1 ⟨v,rfl,hE,b1⟩;obtain⟨F,op',s',d',t',b',A1,n1,c1,A2,n2,c2,rfl,hR',hF⟩:=hE.open;have HB:=Aside0.mk b1;have HX:=Aside0.mk (qr w1 (Af #[Aa Ab op',Ac s',Aa Ab d',Aa Ab t',Ae b',Ad A1 n1 c1,Ad A2 n2 c2] 28));obtain⟨ec0,ec1,ec2,ec3,ec4,ec5,ec6⟩:=fc7 HX.out;clear b1 hE hR' hF;go_wp2_with fail
  refine(hw.out _ (HB.out.alloc HB.out.size _)).mono ?_;rintro e w9 ⟨rfl,b9⟩;have HB9:=Aside0.mk ((HB.out.alloc HB.out.size _).trans (b9.mono (Cb (HB.out.alloc HB.out.size _))));clear b9;go_wp2_with fail
  go_ret;exact⟨rfl,HB9.out⟩
theorem funcsW (s:ByteArray) (w:World) (hT:qz5 w) (hs:s.size≤9223372036854775807):Calls Aj 7 #[Ac s] w fun e w'=>e= .returned (Ae true)∧Below w.heap.size w w':=qn14 qt15 s w hT
theorem kindsW (s:ByteArray) (w:World) (hT:qz5 w) (hs:s.size≤9223372036854775807):Calls Aj 10 #[Ac s] w fun e w'=>e= .returned (Ae true)∧Below w.heap.size w w':=qm14 qt15 s w hT hs
end Go.Proofs.YtocdckniokhbbaaGreatDoor.Syn
