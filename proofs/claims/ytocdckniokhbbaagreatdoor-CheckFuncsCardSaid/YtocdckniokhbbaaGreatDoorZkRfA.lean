import Derived.Test.YtocdckniokhbbaaGreatDoorZkZz
import Derived.Test.YtocdckniokhbbaaGreatDoorZkFc
import Derived.Test.YtocdckniokhbbaaGreatDoorZkSynPp
import Derived.Test.YtocdckniokhbbaaGreatDoorZkLexH
import Derived.Test.YtocdckniokhbbaaGreatDoorZkFigD
import Derived.Test.YtocdckniokhbbaaGreatDoorZkLexM
import Derived.Test.YtocdckniokhbbaaGreatDoorZkPSx1
import Derived.Test.YtocdckniokhbbaaGreatDoorZkSynWf
import Derived.Test.YtocdckniokhbbaaGreatDoorZkSynR
import Derived.Test.YtocdckniokhbbaaGreatDoorZkSynPc
import Derived.StillTailTactics
set_option linter.unusedVariables false
set_option linter.unusedSimpArgs false
open Go.Value renaming slice→Ad,bool→Ae,string→Ac,int→Aa
open Option renaming some→Ay
open List renaming getElem?_eq_getElem→AG,length_append→Ar
open Go.ByteArray renaming toList_eq→Aq
open Bool renaming false_eq_true→AS,eq_false_iff→AR
open Go.Proofs.Tryz renaming prog→Aj,underlying42→AO
open Go.IntKind renaming i64→Ab
open Go.Obj renaming cells→Af
open Nat renaming le_refl→Ag
open Go.RowKit.Below renaming refl→Ao,alloc→AD,setCell→Au,drew→AQ
open Go.Lib renaming cell_of_heap→Ai
open Go.Exit renaming noGoto_ret→AV
set_option maxHeartbeats 8000000
set_option maxRecDepth 100000
namespace Go.Proofs.YtocdckniokhbbaaGreatDoor.Syn
open Go.RowKit Go.Shelf YtocdckniokhbbaaGreatDoorW.PrintWords YtocdckniokhbbaaGreatDoorW.PrintLast YtocdckniokhbbaaGreatDoorW.PrintMore CharB SpanA FigD FigI LexA LexF
theorem qg13:∀ (n:Nat) (s:List UInt8) (acc:List Wd),acc.length≤120→(qo8 n s acc).1.length≤120
 | 0,s,acc,h=>by simpa [qo8]using h
 | n+1,s,acc,h=>by
  simp only [qo8]
  split
  ·exact h
  ·split
   ·simp
   ·split
    ·simp
    ·exact qg13 n _ _ zay
theorem qz19 (s:List UInt8):(qi10 s).1.length≤120:=by
 unfold qi10
 split
 ·simp
 ·split
  ·exact qg13 _ _ _ (by simp)
  ·simp
def qb10 (w:Wd):PS.S93:=⟨w.1,ba w.2.1,⟨w.2.2.1,w.2.2.2⟩⟩
theorem qp17:∀ (l:List Wd) (j i:Nat) (hj:j<l.length),i<4→(wcs l)[j*4+i]?=(wc l[j])[i]?
 | [],j,i,hj,_=>by simp at hj
 | x :: l,0,i,_,hi=>by
  show(wc x ++ wcs l)[0*4+i]?=_;rw [List.getElem?_append_left (by simp [wc];omega)];simp
 | x :: l,j+1,i,hj,hi=>by
  show(wc x ++ wcs l)[(j+1)*4+i]?=_;rw [List.getElem?_append_right (by simp [wc];omega),show(j+1)*4+i - (wc x).length=j*4+i by simp [wc];omega,qp17 l j i (by simpa using hj) hi];rfl
theorem own_CS {w:World} {B:Nat} {A:Option Addr} {cap:Nat} {l:List Wd} (h:w.ownsRow B 93 4 (Ad A l.length cap) l.length (wcs l)) (hl:l.length≤1000):Kd.C PS.k93 w A l.length (l.map qb10):=by
 refine⟨by simp,by omega,fun h0=>?_⟩
 rcases h.2 with ⟨_,h1⟩ | ⟨g,cap',cur,hv,_⟩
 ·omega
 ·cases hv
  refine⟨⟨g,0,none⟩,rfl,fun j p hp=>?_⟩;have hj:j<l.length:=by have:=(List.getElem?_eq_some_iff.1 hp).1;simpa using this
  rw [List.getElem?_map,AG hj]at hp;obtain rfl:qb10 l[j]=p:=Ay.inj hp;refine⟨_,rfl,PS.k93_mk w (qb10 l[j]),fun i u hu=>?_⟩;have hi:i<4:=(List.getElem?_eq_some_iff.1 hu).1;exact h.cells (g:=g) rfl (j*4+i) u (by rw [qp17 l j i hj hi];exact hu)
theorem qw14 (w:Wd):(qb10 w).f1.toList=w.2.1:=by show(ba w.2.1).toList=_;rw [Aq];exact qe1 _
theorem w64s {n:Int} (h0: -9223372036854775808≤n) (h1:n≤9223372036854775807):wrap64 n=n:=by unfold wrap64;omega
theorem qa21 (l:List Wd) (hl:l.length≤1000):∀ (r:List Wd) (i n k:Nat),l.drop i=r→n≤12→3*r.length<k→PS.syntax_deep.l0 k (n:Int) (l.map qb10) (l.length:Int) (i:Int)=some (qp9 n r)
 | [],i,n,k,hd,hn,hk=>by
  have hi:l.length≤i:=by have:=congrArg List.length hd;simp at this;omega
  obtain⟨k,rfl⟩:∃ q,k=q+1:=⟨k - 1,by omega⟩;rw [PS.syntax_deep.l0,if_neg (by omega)];rfl
 | w :: r,i,n,k,hd,hn,hk=>by
  have hi:i<l.length:=by have:=congrArg List.length hd;simp at this;omega
  have hw:l[i]?=some w:=by have:=congrArg List.head? hd;rwa [List.head?_drop]at this
  have hd':l.drop (i+1)=r:=by rw [← List.tail_drop,hd];rfl
  obtain⟨q,rfl,hq⟩:∃ q,k=q+3∧3*r.length<q:=⟨k - 3,by simp at hk;omega,by simp at hk;omega⟩
  have hrd:PS.rd_T93 (l.map qb10) (i:Int)=qb10 w:=by
   unfold PS.rd_T93;rw [Int.toNat_natCast,List.getD_eq_getElem?_getD,List.getElem?_map,hw];rfl
  have hwi:wrap64 ((i:Int)+1)=((i+1:Nat):Int):=by unfold wrap64;omega
  have ih:=fun n' m hn' hm=>qa21 l hl r (i+1) n' m hd' hn' hm
  have hgo:∀ m n':Nat,n'≤13→3*r.length<m→(if(n':Int)>12 then some true else PS.syntax_deep.l0 m (n':Int) (l.map qb10) (l.length:Int) ((i+1:Nat):Int))=some (if 12<n' then true else qp9 n' r):=fun m n' h1 h2=>by
   by_cases h3:12<n'
   ·rw [if_pos (by omega),if_pos h3]
   ·rw [if_neg (by omega),if_neg h3];exact ih n' m (by omega) h2
  rw [PS.syntax_deep.l0,if_pos (by omega),if_pos (by omega),if_pos (by rw [List.length_map];omega),hrd,hwi,qw14];have hdF:qp9 n (w :: r)=if 12<(if qc2 w then n+1 else if qn1 w then n - 1 else n)then true else qp9 (if qc2 w then n+1 else if qn1 w then n - 1 else n) r:=by rw [qp9]
  rw [hdF];by_cases h1:w.1=1
  ·rw [if_pos (show(qb10 w).f0=1 from h1)]
   have hj1:(if w.2.1= [40]then PS.syntax_deep.j1 (q+2) n (l.map qb10) l.length i (qb10 w).f1 (w.2.1 == [40])else PS.syntax_deep.j1 (q+2) n (l.map qb10) l.length i (qb10 w).f1 (w.2.1 == [91]))=PS.syntax_deep.j1 (q+2) n (l.map qb10) l.length i (qb10 w).f1 (qc2 w):=by
    unfold qc2;rw [h1];by_cases h:w.2.1= [40]
    ·rw [if_pos h,h];rfl
    ·rw [if_neg h,show(w.2.1 == [40])=false by simpa using h];simp
   rw [hj1,PS.syntax_deep.j1,qw14,hwi];by_cases ho:qc2 w=true
   ·rw [if_pos ho,if_pos ho,w64s (by omega) (by omega)];exact hgo (q+1) (n+1) (by omega) (by omega)
   ·rw [if_neg ho,if_neg ho]
    have hj2:(if w.2.1= [41]then PS.syntax_deep.j2 (q+1) n (l.map qb10) l.length i (w.2.1 == [41])else PS.syntax_deep.j2 (q+1) n (l.map qb10) l.length i (w.2.1 == [93]))=PS.syntax_deep.j2 (q+1) n (l.map qb10) l.length i (qn1 w):=by
     unfold qn1;rw [h1];by_cases h:w.2.1= [41]
     ·rw [if_pos h,h];rfl
     ·rw [if_neg h,show(w.2.1 == [41])=false by simpa using h];simp
    rw [hj2,PS.syntax_deep.j2,hwi];by_cases hc:qn1 w=true
    ·rw [if_pos hc,if_pos hc]
     have hm:mx (wrap64 ((n:Int) - 1)) 0=((n - 1:Nat):Int):=by
      rw [w64s (by omega) (by omega)];unfold mx
      split<;>omega
     rw [hm];exact hgo q (n - 1) (by omega) hq
    ·rw [if_neg hc,if_neg hc];exact hgo q n (by omega) hq
  ·rw [if_neg (show ¬ (qb10 w).f0=1 from h1)];have ho:qc2 w=false:=by unfold qc2;simp [h1]
   have hc:qn1 w=false:=by unfold qn1;simp [h1]
   rw [ho,hc];simp only [AS,if_false];rw [if_neg (by omega)];exact ih n (q+2) hn (by omega)
theorem qz20 (l:List Wd) (hl:l.length≤1000) (W:World) (A:Option Addr) (cap B:Nat) (ho:W.ownsRow B 93 4 (Ad A l.length cap) l.length (wcs l)) :
  Calls Aj 25 #[Ad A l.length cap] W (fun e w'=>e= .returned (Ae (qp9 0 l))∧Below W.heap.size W w'):=by
 have hm:(l.map qb10).length=l.length:=by simp
 have h:=PS.syntax_deep.calls 3001 A cap (l.map qb10) (qp9 0 l) W (by rw [hm];exact own_CS ho hl) (by rw [hm];exact qm8 ho) (by unfold PS.syntax_deep.f;rw [hm];exact qa21 l hl l 0 0 3001 rfl (by omega) (by omega))
 rwa [hm]at h
theorem qn16 (s:ByteArray) (w:World) (hT:qz5 w) (hs:s.size≤9223372036854775807):Calls Aj 12 #[Ac s] w (qq21 w (qf3 s.data.toList).1 (qf3 s.data.toList).2):=by
 have hlen:=qz19 s.data.toList;have B1:=(Ao w.heap.size w).alloc (Ag _) (Af #[Aa Ab 0,Ac ⟨#[]⟩,Aa Ab 0,Aa Ab 0,Ae false,Ad none 0 0,Ad none 0 0] 28);have B2:=B1.alloc B1.size (Af #[Aa Ab 0] 29);have hlex:=LexM.lex_call s _ hs (qj1 hT B2);generalize hR:qi10 s.data.toList=R at hlen hlex;obtain⟨l,n⟩:=R;have hp:qf3 s.data.toList=(if n=0 then(if qp9 0 l=true then(ex0,34)else match qj5 l with | some e=>(e,0) | none=>(ex0,31))else(ex0,n):Ex × Int):=by unfold qf3;rw [hR];rfl
 rw [hp];simp only at hlen;have hlen:l.length≤1000:=by omega
 have hlex':Calls Aj 24 #[Ac s] ((w.alloc (Af #[Aa Ab 0,Ac ⟨#[]⟩,Aa Ab 0,Aa Ab 0,Ae false,Ad none 0 0,Ad none 0 0] 28)).alloc (Af #[Aa Ab 0] 29)) (qt9 ((w.alloc (Af #[Aa Ab 0,Ac ⟨#[]⟩,Aa Ab 0,Aa Ab 0,Ae false,Ad none 0 0,Ad none 0 0] 28)).alloc (Af #[Aa Ab 0] 29)) l n):=hlex;by_cases hn:n=0
 ·subst hn;rw [if_pos rfl];have hdeep:=fun W A cap B=>qz20 l hlen W A cap B;by_cases hd:qp9 0 l=true
  ·rw [if_pos hd];rw [hd]at hdeep;exact qm16 s w l hlex' hdeep
  ·rw [if_neg hd];rw [AR.2 hd]at hdeep;have hor:=fun p A cap W h=>qa23 p A cap l l (80*l.length+60) (Ag _) qt24 W h
   cases hpb:qk3 (80*l.length+60) 0 l with
   | none=>
    rw [hpb]at hor;have hpw:qj5 l=none:=by unfold qj5;rw [hpb]
    rw [hpw];exact ql16 s w l hlex' hdeep hlen hor
   | some xr=>
    obtain⟨x,r⟩:=xr;rw [hpb]at hor
    cases hr:r with
    | nil=>
     subst hr;have hpw:qj5 l=some x:=by unfold qj5;rw [hpb]
     rw [hpw];exact qj16 s w l x hlex' hdeep hlen hor
    | cons y ys=>
     have hpw:qj5 l=none:=by unfold qj5;rw [hpb,hr]
     rw [hpw];refine qk16 s w l x r (by rw [hr];simp) ?_ hlex' hdeep hlen hor;obtain⟨u,hu,_⟩:=(qj3 _).bin (by omega) hpb;have:=congrArg List.length hu;rw [Ar]at this;omega
 ·rw [if_neg hn];exact qe19 s w l n hn hlex'
end Go.Proofs.YtocdckniokhbbaaGreatDoor.Syn
namespace Go.Proofs.YtocdckniokhbbaaGreatDoor.Syn
open LexA DecE FigA FigC SpanA CharB
theorem qr18 (s:List UInt8):(qi4 s).length≤s.length:=qf15 _ s
theorem one_ok {s:List UInt8} (hs:s.length≤1000) {e:Bool} {w:Wd} {r:List UInt8} (h:oneW s e=some (w,r)):okW w:=by
 have z0:=qb5 0 (by omega) (by omega);have plain:∀ {k:Int} {t:List UInt8},t.length≤1000→okW ((k,t,0,0):Wd):=fun ht=>⟨z0,z0,ht⟩
 cases s with
 | nil=>cases h
 | cons c t=>
  simp only [oneW]at h
  split at h
  ·unfold litW at h
   cases hq:qm13 c t with
   | none=>rw [hq]at h;cases h
   | some q=>
    obtain⟨a,r'⟩:=q;rw [hq]at h
    cases h
    have:=(qq8 c t a r hq).1;refine plain ?_;have h2:=congrArg List.length this;simp at h2 hs;omega
  split at h
  ·unfold numW at h
   split at h
   ·rename_i hc
    cases h
    have hl:=qs19 (c :: t);have hn:=nm_lit (ql5 (c :: t));have hi:=FigH.nm_i64 hn;refine⟨?_,?_,by show(ql5 (c :: t)).length≤1000;omega⟩
    ·show qy11 (qt7 (ql5 (c :: t))).1.1;rw [hc.2];exact z0
    ·show qy11 (qt7 (ql5 (c :: t))).1.2;unfold I64 at hi;exact qb5 _ (by omega) (by omega)
   ·cases h
  split at h
  ·rename_i m hm
   cases h
   have:=qc19 (qp8 hm).2;exact plain (by omega)
  split at h
  ·rename_i m hm
   cases h
   have:=qc19 (qp8 hm).2;exact plain (by omega)
  split at h
  ·cases h;exact plain (by simp)
  split at h
  ·unfold varW at h
   split at h
   ·cases h
    have:=qr18 t;simp at hs;exact plain (by omega)
   ·cases h
  ·have hr:=qr18 (c :: t);unfold qh10 at h;have hr1:(qi4 (c :: t)).length≤1000:=Nat.le_trans hr hs;clear hr;generalize qi4 (c :: t)=R at *;generalize qu16 R _=K at *
   split at h
   ·split at h
    ·split at h
     ·cases h;exact⟨z0,z0,hr1⟩
     ·cases h
    ·have h9:=congrArg Prod.fst (Ay.inj h);dsimp only at h9;rw [← h9];exact⟨z0,z0,hr1⟩
   ·cases h
theorem qa20:∀ (n:Nat) (s:List UInt8) (acc:List Wd),s.length≤1000→(∀ w ∈ acc,okW w)→ ∀ w ∈ (qo8 n s acc).1,okW w
 | 0,s,acc,hs,ha=>by simpa [qo8]using ha
 | n+1,s,acc,hs,ha=>by
  simp only [qo8]
  split
  ·exact ha
  ·cases hq:oneW s (qe3 acc)with
   | none=>intro w hw;exact absurd hw List.not_mem_nil
   | some q=>
    obtain⟨v,r⟩:=q;simp only []
    split
    ·intro w hw;exact absurd hw List.not_mem_nil
    ·refine qa20 n _ _ ?_ ?_
     ·have:=qj15 hq;have:=ql13 spB r;omega
     ·intro w hw
      rcases List.mem_append.1 hw with h | h
      ·exact ha w h
      ·rw [List.mem_singleton]at h;subst h;exact one_ok hs hq
theorem qo15:∀ (n:Nat) (s:List UInt8) (acc:List Wd),acc.length≤120→(qo8 n s acc).1.length≤120
 | 0,s,acc,h=>by simpa [qo8]using h
 | n+1,s,acc,h=>by
  simp only [qo8]
  split
  ·exact h
  ·split
   ·simp
   ·split
    ·simp
    ·exact qo15 n _ _ zay
theorem lexS_ok (s:List UInt8):okR (qi10 s).1:=by
 unfold qi10
 split
 ·exact⟨by simp,by simp⟩
 ·split
  ·have h1:=qo15 s.length (s.dropWhile spB) [] (by simp);have h2:=ql13 spB s;exact⟨by omega,qa20 s.length (s.dropWhile spB) [] (by omega) (by simp)⟩
  ·exact⟨by simp,by simp⟩
theorem qf19 (s:List UInt8):wfE (qf3 s).1:=by
 unfold qf3
 split
 ·split
  ·exact qs20
  ·cases h:qj5 (qi10 s).1 with
   | none=>exact qs20
   | some e=>exact qz22 (lexS_ok s) h
 ·exact qs20
end Go.Proofs.YtocdckniokhbbaaGreatDoor.Syn
namespace Go.Proofs.YtocdckniokhbbaaGreatDoor.Syn
open Go.RowKit Go.Shelf YtocdckniokhbbaaGreatDoorW.PrintWords YtocdckniokhbbaaGreatDoorW.PrintLast YtocdckniokhbbaaGreatDoorW.PrintMore CharB SpanA FigD LexA LexF
theorem lit_rn (i:Nat) (hi:i<26):(#[Ac ⟨#[108,97,115,116]⟩,Ac ⟨#[112,111,115,105,116,105,111,110]⟩,Ac ⟨#[99,111,117,110,116]⟩,Ac ⟨#[115,117,109]⟩,Ac ⟨#[108,111,99,97,108,45,110,97,109,101]⟩,Ac ⟨#[110,97,109,101]⟩,Ac ⟨#[110,97,109,101,115,112,97,99,101,45,117,114,105]⟩,Ac ⟨#[115,116,114,105,110,103]⟩,Ac ⟨#[110,111,114,109,97,108,105,122,101,45,115,112,97,99,101]⟩,Ac ⟨#[99,111,110,99,97,116]⟩,Ac ⟨#[115,116,97,114,116,115,45,119,105,116,104]⟩,Ac ⟨#[99,111,110,116,97,105,110,115]⟩,Ac ⟨#[115,117,98,115,116,114,105,110,103,45,98,101,102,111,114,101]⟩,Ac ⟨#[115,117,98,115,116,114,105,110,103,45,97,102,116,101,114]⟩,Ac ⟨#[115,117,98,115,116,114,105,110,103]⟩,Ac ⟨#[116,114,97,110,115,108,97,116,101]⟩,Ac ⟨#[115,116,114,105,110,103,45,108,101,110,103,116,104]⟩,Ac ⟨#[98,111,111,108,101,97,110]⟩,Ac ⟨#[110,111,116]⟩,Ac ⟨#[108,97,110,103]⟩,Ac ⟨#[116,114,117,101]⟩,Ac ⟨#[102,97,108,115,101]⟩,Ac ⟨#[110,117,109,98,101,114]⟩,Ac ⟨#[102,108,111,111,114]⟩,Ac ⟨#[99,101,105,108,105,110,103]⟩,Ac ⟨#[114,111,117,110,100]⟩]:Array Value)[i]?=some (Ac (ba (funcsL.getD i ([],0,0,false,0)).1)):=by
 have h:i=0∨i=1∨i=2∨i=3∨i=4∨i=5∨i=6∨i=7∨i=8∨i=9∨i=10∨i=11∨i=12∨i=13∨i=14∨i=15∨i=16∨i=17∨i=18∨i=19∨i=20∨i=21∨i=22∨i=23∨i=24∨i=25:=by omega
 rcases h with rfl | rfl | rfl | rfl | rfl | rfl | rfl | rfl | rfl | rfl | rfl | rfl | rfl | rfl | rfl | rfl | rfl | rfl | rfl | rfl | rfl | rfl | rfl | rfl | rfl | rfl<;>rfl
theorem lit_rl (i:Nat) (hi:i<26):(#[Aa Ab 0,Aa Ab 0,Aa Ab 1,Aa Ab 1,Aa Ab 0,Aa Ab 0,Aa Ab 0,Aa Ab 0,Aa Ab 0,Aa Ab 2,Aa Ab 2,Aa Ab 2,Aa Ab 2,Aa Ab 2,Aa Ab 2,Aa Ab 3,Aa Ab 0,Aa Ab 1,Aa Ab 1,Aa Ab 1,Aa Ab 0,Aa Ab 0,Aa Ab 0,Aa Ab 1,Aa Ab 1,Aa Ab 1]:Array Value)[i]?=some (Aa Ab (funcsL.getD i ([],0,0,false,0)).2.1):=by
 have h:i=0∨i=1∨i=2∨i=3∨i=4∨i=5∨i=6∨i=7∨i=8∨i=9∨i=10∨i=11∨i=12∨i=13∨i=14∨i=15∨i=16∨i=17∨i=18∨i=19∨i=20∨i=21∨i=22∨i=23∨i=24∨i=25:=by omega
 rcases h with rfl | rfl | rfl | rfl | rfl | rfl | rfl | rfl | rfl | rfl | rfl | rfl | rfl | rfl | rfl | rfl | rfl | rfl | rfl | rfl | rfl | rfl | rfl | rfl | rfl | rfl<;>rfl
theorem lit_rm (i:Nat) (hi:i<26):(#[Aa Ab 0,Aa Ab 0,Aa Ab 1,Aa Ab 1,Aa Ab 1,Aa Ab 1,Aa Ab 1,Aa Ab 1,Aa Ab 1,Aa Ab 120,Aa Ab 2,Aa Ab 2,Aa Ab 2,Aa Ab 2,Aa Ab 3,Aa Ab 3,Aa Ab 1,Aa Ab 1,Aa Ab 1,Aa Ab 1,Aa Ab 0,Aa Ab 0,Aa Ab 1,Aa Ab 1,Aa Ab 1,Aa Ab 1]:Array Value)[i]?=some (Aa Ab (funcsL.getD i ([],0,0,false,0)).2.2.1):=by
 have h:i=0∨i=1∨i=2∨i=3∨i=4∨i=5∨i=6∨i=7∨i=8∨i=9∨i=10∨i=11∨i=12∨i=13∨i=14∨i=15∨i=16∨i=17∨i=18∨i=19∨i=20∨i=21∨i=22∨i=23∨i=24∨i=25:=by omega
 rcases h with rfl | rfl | rfl | rfl | rfl | rfl | rfl | rfl | rfl | rfl | rfl | rfl | rfl | rfl | rfl | rfl | rfl | rfl | rfl | rfl | rfl | rfl | rfl | rfl | rfl | rfl<;>rfl
theorem lit_rt (i:Nat) (hi:i<26):(#[Aa Ab 3,Aa Ab 3,Aa Ab 3,Aa Ab 3,Aa Ab 4,Aa Ab 4,Aa Ab 4,Aa Ab 4,Aa Ab 4,Aa Ab 4,Aa Ab 2,Aa Ab 2,Aa Ab 4,Aa Ab 4,Aa Ab 4,Aa Ab 4,Aa Ab 3,Aa Ab 2,Aa Ab 2,Aa Ab 2,Aa Ab 2,Aa Ab 2,Aa Ab 3,Aa Ab 3,Aa Ab 3,Aa Ab 3]:Array Value)[i]?=some (Aa Ab (funcsL.getD i ([],0,0,false,0)).2.2.2.2):=by
 have h:i=0∨i=1∨i=2∨i=3∨i=4∨i=5∨i=6∨i=7∨i=8∨i=9∨i=10∨i=11∨i=12∨i=13∨i=14∨i=15∨i=16∨i=17∨i=18∨i=19∨i=20∨i=21∨i=22∨i=23∨i=24∨i=25:=by omega
 rcases h with rfl | rfl | rfl | rfl | rfl | rfl | rfl | rfl | rfl | rfl | rfl | rfl | rfl | rfl | rfl | rfl | rfl | rfl | rfl | rfl | rfl | rfl | rfl | rfl | rfl | rfl<;>rfl
theorem lit_nd (i:Nat) (hi:i<26):(decide (2≤i) && decide (i≤6))=(funcsL.getD i ([],0,0,false,0)).2.2.2.1:=by
 have h:i=0∨i=1∨i=2∨i=3∨i=4∨i=5∨i=6∨i=7∨i=8∨i=9∨i=10∨i=11∨i=12∨i=13∨i=14∨i=15∨i=16∨i=17∨i=18∨i=19∨i=20∨i=21∨i=22∨i=23∨i=24∨i=25:=by omega
 rcases h with rfl | rfl | rfl | rfl | rfl | rfl | rfl | rfl | rfl | rfl | rfl | rfl | rfl | rfl | rfl | rfl | rfl | rfl | rfl | rfl | rfl | rfl | rfl | rfl | rfl | rfl<;>rfl
def qt16 (i:Nat) (s:List UInt8):Option (Int × Int × Bool × Int):=((funcsL.drop i).find? (fun o=>o.1 == s)).map (·.2)
theorem qa24 (i:Nat) (hi:i<26) (s:List UInt8):qt16 i s=if(funcsL.getD i ([],0,0,false,0)).1=s then some (funcsL.getD i ([],0,0,false,0)).2 else qt16 (i+1) s:=by
 unfold qt16;have hl:i<funcsL.length:=hi;rw [List.drop_eq_getElem_cons hl,List.find?_cons];have e:funcsL.getD i ([],0,0,false,0)=funcsL[i]:=by rw [List.getD_eq_getElem?_getD,AG hl];rfl
 rw [e];by_cases h:funcsL[i].1=s
 ·rw [if_pos h,beq_iff_eq.mpr h];rfl
 ·rw [if_neg h,beq_eq_false_iff_ne.mpr h]
theorem qb20 (s:List UInt8):qt16 26 s=none:=rfl
theorem qq10 (s:ByteArray) (w:World):Calls Aj 18 #[Ac s] w fun e w'=>e= .returned (qj17 (ql2 s.toList))∧Below w.heap.size w w':=by
 have HB0:=Aside0.mk (AD (AD (AD (AD (AD (Ao w.heap.size w) (by simp) (Af #[Aa Ab 0,Aa Ab 0,Ae false,Aa Ab 0] 42)) (by simp) (Af #[Ac ⟨#[108,97,115,116]⟩,Ac ⟨#[112,111,115,105,116,105,111,110]⟩,Ac ⟨#[99,111,117,110,116]⟩,Ac ⟨#[115,117,109]⟩,Ac ⟨#[108,111,99,97,108,45,110,97,109,101]⟩,Ac ⟨#[110,97,109,101]⟩,Ac ⟨#[110,97,109,101,115,112,97,99,101,45,117,114,105]⟩,Ac ⟨#[115,116,114,105,110,103]⟩,Ac ⟨#[110,111,114,109,97,108,105,122,101,45,115,112,97,99,101]⟩,Ac ⟨#[99,111,110,99,97,116]⟩,Ac ⟨#[115,116,97,114,116,115,45,119,105,116,104]⟩,Ac ⟨#[99,111,110,116,97,105,110,115]⟩,Ac ⟨#[115,117,98,115,116,114,105,110,103,45,98,101,102,111,114,101]⟩,Ac ⟨#[115,117,98,115,116,114,105,110,103,45,97,102,116,101,114]⟩,Ac ⟨#[115,117,98,115,116,114,105,110,103]⟩,Ac ⟨#[116,114,97,110,115,108,97,116,101]⟩,Ac ⟨#[115,116,114,105,110,103,45,108,101,110,103,116,104]⟩,Ac ⟨#[98,111,111,108,101,97,110]⟩,Ac ⟨#[110,111,116]⟩,Ac ⟨#[108,97,110,103]⟩,Ac ⟨#[116,114,117,101]⟩,Ac ⟨#[102,97,108,115,101]⟩,Ac ⟨#[110,117,109,98,101,114]⟩,Ac ⟨#[102,108,111,111,114]⟩,Ac ⟨#[99,101,105,108,105,110,103]⟩,Ac ⟨#[114,111,117,110,100]⟩] 9)) za6 (Af #[Aa Ab 0,Aa Ab 0,Aa Ab 1,Aa Ab 1,Aa Ab 0,Aa Ab 0,Aa Ab 0,Aa Ab 0,Aa Ab 0,Aa Ab 2,Aa Ab 2,Aa Ab 2,Aa Ab 2,Aa Ab 2,Aa Ab 2,Aa Ab 3,Aa Ab 0,Aa Ab 1,Aa Ab 1,Aa Ab 1,Aa Ab 0,Aa Ab 0,Aa Ab 0,Aa Ab 1,Aa Ab 1,Aa Ab 1] 3)) za6 (Af #[Aa Ab 0,Aa Ab 0,Aa Ab 1,Aa Ab 1,Aa Ab 1,Aa Ab 1,Aa Ab 1,Aa Ab 1,Aa Ab 1,Aa Ab 120,Aa Ab 2,Aa Ab 2,Aa Ab 2,Aa Ab 2,Aa Ab 3,Aa Ab 3,Aa Ab 1,Aa Ab 1,Aa Ab 1,Aa Ab 1,Aa Ab 0,Aa Ab 0,Aa Ab 1,Aa Ab 1,Aa Ab 1,Aa Ab 1] 3)) za6 (Af #[Aa Ab 3,Aa Ab 3,Aa Ab 3,Aa Ab 3,Aa Ab 4,Aa Ab 4,Aa Ab 4,Aa Ab 4,Aa Ab 4,Aa Ab 4,Aa Ab 2,Aa Ab 2,Aa Ab 4,Aa Ab 4,Aa Ab 4,Aa Ab 4,Aa Ab 3,Aa Ab 2,Aa Ab 2,Aa Ab 2,Aa Ab 2,Aa Ab 2,Aa Ab 3,Aa Ab 3,Aa Ab 3,Aa Ab 3] 3));have h0:=qr w (Af #[Aa Ab 0,Aa Ab 0,Ae false,Aa Ab 0] 42)
 replace h0:=qb h0 (Af #[Ac ⟨#[108,97,115,116]⟩,Ac ⟨#[112,111,115,105,116,105,111,110]⟩,Ac ⟨#[99,111,117,110,116]⟩,Ac ⟨#[115,117,109]⟩,Ac ⟨#[108,111,99,97,108,45,110,97,109,101]⟩,Ac ⟨#[110,97,109,101]⟩,Ac ⟨#[110,97,109,101,115,112,97,99,101,45,117,114,105]⟩,Ac ⟨#[115,116,114,105,110,103]⟩,Ac ⟨#[110,111,114,109,97,108,105,122,101,45,115,112,97,99,101]⟩,Ac ⟨#[99,111,110,99,97,116]⟩,Ac ⟨#[115,116,97,114,116,115,45,119,105,116,104]⟩,Ac ⟨#[99,111,110,116,97,105,110,115]⟩,Ac ⟨#[115,117,98,115,116,114,105,110,103,45,98,101,102,111,114,101]⟩,Ac ⟨#[115,117,98,115,116,114,105,110,103,45,97,102,116,101,114]⟩,Ac ⟨#[115,117,98,115,116,114,105,110,103]⟩,Ac ⟨#[116,114,97,110,115,108,97,116,101]⟩,Ac ⟨#[115,116,114,105,110,103,45,108,101,110,103,116,104]⟩,Ac ⟨#[98,111,111,108,101,97,110]⟩,Ac ⟨#[110,111,116]⟩,Ac ⟨#[108,97,110,103]⟩,Ac ⟨#[116,114,117,101]⟩,Ac ⟨#[102,97,108,115,101]⟩,Ac ⟨#[110,117,109,98,101,114]⟩,Ac ⟨#[102,108,111,111,114]⟩,Ac ⟨#[99,101,105,108,105,110,103]⟩,Ac ⟨#[114,111,117,110,100]⟩] 9);replace h0:=qb h0 (Af #[Aa Ab 0,Aa Ab 0,Aa Ab 1,Aa Ab 1,Aa Ab 0,Aa Ab 0,Aa Ab 0,Aa Ab 0,Aa Ab 0,Aa Ab 2,Aa Ab 2,Aa Ab 2,Aa Ab 2,Aa Ab 2,Aa Ab 2,Aa Ab 3,Aa Ab 0,Aa Ab 1,Aa Ab 1,Aa Ab 1,Aa Ab 0,Aa Ab 0,Aa Ab 0,Aa Ab 1,Aa Ab 1,Aa Ab 1] 3);replace h0:=qb h0 (Af #[Aa Ab 0,Aa Ab 0,Aa Ab 1,Aa Ab 1,Aa Ab 1,Aa Ab 1,Aa Ab 1,Aa Ab 1,Aa Ab 1,Aa Ab 120,Aa Ab 2,Aa Ab 2,Aa Ab 2,Aa Ab 2,Aa Ab 3,Aa Ab 3,Aa Ab 1,Aa Ab 1,Aa Ab 1,Aa Ab 1,Aa Ab 0,Aa Ab 0,Aa Ab 1,Aa Ab 1,Aa Ab 1,Aa Ab 1] 3);replace h0:=qb h0 (Af #[Aa Ab 3,Aa Ab 3,Aa Ab 3,Aa Ab 3,Aa Ab 4,Aa Ab 4,Aa Ab 4,Aa Ab 4,Aa Ab 4,Aa Ab 4,Aa Ab 2,Aa Ab 2,Aa Ab 4,Aa Ab 4,Aa Ab 4,Aa Ab 4,Aa Ab 3,Aa Ab 2,Aa Ab 2,Aa Ab 2,Aa Ab 2,Aa Ab 2,Aa Ab 3,Aa Ab 3,Aa Ab 3,Aa Ab 3] 3);have H0:=Aside0.mk h0
 have h1:=qr (w.alloc (Af #[Aa Ab 0,Aa Ab 0,Ae false,Aa Ab 0] 42)) (Af #[Ac ⟨#[108,97,115,116]⟩,Ac ⟨#[112,111,115,105,116,105,111,110]⟩,Ac ⟨#[99,111,117,110,116]⟩,Ac ⟨#[115,117,109]⟩,Ac ⟨#[108,111,99,97,108,45,110,97,109,101]⟩,Ac ⟨#[110,97,109,101]⟩,Ac ⟨#[110,97,109,101,115,112,97,99,101,45,117,114,105]⟩,Ac ⟨#[115,116,114,105,110,103]⟩,Ac ⟨#[110,111,114,109,97,108,105,122,101,45,115,112,97,99,101]⟩,Ac ⟨#[99,111,110,99,97,116]⟩,Ac ⟨#[115,116,97,114,116,115,45,119,105,116,104]⟩,Ac ⟨#[99,111,110,116,97,105,110,115]⟩,Ac ⟨#[115,117,98,115,116,114,105,110,103,45,98,101,102,111,114,101]⟩,Ac ⟨#[115,117,98,115,116,114,105,110,103,45,97,102,116,101,114]⟩,Ac ⟨#[115,117,98,115,116,114,105,110,103]⟩,Ac ⟨#[116,114,97,110,115,108,97,116,101]⟩,Ac ⟨#[115,116,114,105,110,103,45,108,101,110,103,116,104]⟩,Ac ⟨#[98,111,111,108,101,97,110]⟩,Ac ⟨#[110,111,116]⟩,Ac ⟨#[108,97,110,103]⟩,Ac ⟨#[116,114,117,101]⟩,Ac ⟨#[102,97,108,115,101]⟩,Ac ⟨#[110,117,109,98,101,114]⟩,Ac ⟨#[102,108,111,111,114]⟩,Ac ⟨#[99,101,105,108,105,110,103]⟩,Ac ⟨#[114,111,117,110,100]⟩] 9);rw [qo]at h1;replace h1:=qb h1 (Af #[Aa Ab 0,Aa Ab 0,Aa Ab 1,Aa Ab 1,Aa Ab 0,Aa Ab 0,Aa Ab 0,Aa Ab 0,Aa Ab 0,Aa Ab 2,Aa Ab 2,Aa Ab 2,Aa Ab 2,Aa Ab 2,Aa Ab 2,Aa Ab 3,Aa Ab 0,Aa Ab 1,Aa Ab 1,Aa Ab 1,Aa Ab 0,Aa Ab 0,Aa Ab 0,Aa Ab 1,Aa Ab 1,Aa Ab 1] 3);replace h1:=qb h1 (Af #[Aa Ab 0,Aa Ab 0,Aa Ab 1,Aa Ab 1,Aa Ab 1,Aa Ab 1,Aa Ab 1,Aa Ab 1,Aa Ab 1,Aa Ab 120,Aa Ab 2,Aa Ab 2,Aa Ab 2,Aa Ab 2,Aa Ab 3,Aa Ab 3,Aa Ab 1,Aa Ab 1,Aa Ab 1,Aa Ab 1,Aa Ab 0,Aa Ab 0,Aa Ab 1,Aa Ab 1,Aa Ab 1,Aa Ab 1] 3);replace h1:=qb h1 (Af #[Aa Ab 3,Aa Ab 3,Aa Ab 3,Aa Ab 3,Aa Ab 4,Aa Ab 4,Aa Ab 4,Aa Ab 4,Aa Ab 4,Aa Ab 4,Aa Ab 2,Aa Ab 2,Aa Ab 4,Aa Ab 4,Aa Ab 4,Aa Ab 4,Aa Ab 3,Aa Ab 2,Aa Ab 2,Aa Ab 2,Aa Ab 2,Aa Ab 2,Aa Ab 3,Aa Ab 3,Aa Ab 3,Aa Ab 3] 3);have H1:=Aside0.mk h1
 have h2:=qr ((w.alloc (Af #[Aa Ab 0,Aa Ab 0,Ae false,Aa Ab 0] 42)).alloc (Af #[Ac ⟨#[108,97,115,116]⟩,Ac ⟨#[112,111,115,105,116,105,111,110]⟩,Ac ⟨#[99,111,117,110,116]⟩,Ac ⟨#[115,117,109]⟩,Ac ⟨#[108,111,99,97,108,45,110,97,109,101]⟩,Ac ⟨#[110,97,109,101]⟩,Ac ⟨#[110,97,109,101,115,112,97,99,101,45,117,114,105]⟩,Ac ⟨#[115,116,114,105,110,103]⟩,Ac ⟨#[110,111,114,109,97,108,105,122,101,45,115,112,97,99,101]⟩,Ac ⟨#[99,111,110,99,97,116]⟩,Ac ⟨#[115,116,97,114,116,115,45,119,105,116,104]⟩,Ac ⟨#[99,111,110,116,97,105,110,115]⟩,Ac ⟨#[115,117,98,115,116,114,105,110,103,45,98,101,102,111,114,101]⟩,Ac ⟨#[115,117,98,115,116,114,105,110,103,45,97,102,116,101,114]⟩,Ac ⟨#[115,117,98,115,116,114,105,110,103]⟩,Ac ⟨#[116,114,97,110,115,108,97,116,101]⟩,Ac ⟨#[115,116,114,105,110,103,45,108,101,110,103,116,104]⟩,Ac ⟨#[98,111,111,108,101,97,110]⟩,Ac ⟨#[110,111,116]⟩,Ac ⟨#[108,97,110,103]⟩,Ac ⟨#[116,114,117,101]⟩,Ac ⟨#[102,97,108,115,101]⟩,Ac ⟨#[110,117,109,98,101,114]⟩,Ac ⟨#[102,108,111,111,114]⟩,Ac ⟨#[99,101,105,108,105,110,103]⟩,Ac ⟨#[114,111,117,110,100]⟩] 9)) (Af #[Aa Ab 0,Aa Ab 0,Aa Ab 1,Aa Ab 1,Aa Ab 0,Aa Ab 0,Aa Ab 0,Aa Ab 0,Aa Ab 0,Aa Ab 2,Aa Ab 2,Aa Ab 2,Aa Ab 2,Aa Ab 2,Aa Ab 2,Aa Ab 3,Aa Ab 0,Aa Ab 1,Aa Ab 1,Aa Ab 1,Aa Ab 0,Aa Ab 0,Aa Ab 0,Aa Ab 1,Aa Ab 1,Aa Ab 1] 3);rw [qo,qo]at h2;replace h2:=qb h2 (Af #[Aa Ab 0,Aa Ab 0,Aa Ab 1,Aa Ab 1,Aa Ab 1,Aa Ab 1,Aa Ab 1,Aa Ab 1,Aa Ab 1,Aa Ab 120,Aa Ab 2,Aa Ab 2,Aa Ab 2,Aa Ab 2,Aa Ab 3,Aa Ab 3,Aa Ab 1,Aa Ab 1,Aa Ab 1,Aa Ab 1,Aa Ab 0,Aa Ab 0,Aa Ab 1,Aa Ab 1,Aa Ab 1,Aa Ab 1] 3);replace h2:=qb h2 (Af #[Aa Ab 3,Aa Ab 3,Aa Ab 3,Aa Ab 3,Aa Ab 4,Aa Ab 4,Aa Ab 4,Aa Ab 4,Aa Ab 4,Aa Ab 4,Aa Ab 2,Aa Ab 2,Aa Ab 4,Aa Ab 4,Aa Ab 4,Aa Ab 4,Aa Ab 3,Aa Ab 2,Aa Ab 2,Aa Ab 2,Aa Ab 2,Aa Ab 2,Aa Ab 3,Aa Ab 3,Aa Ab 3,Aa Ab 3] 3);have H2:=Aside0.mk h2
 have h3:=qr (((w.alloc (Af #[Aa Ab 0,Aa Ab 0,Ae false,Aa Ab 0] 42)).alloc (Af #[Ac ⟨#[108,97,115,116]⟩,Ac ⟨#[112,111,115,105,116,105,111,110]⟩,Ac ⟨#[99,111,117,110,116]⟩,Ac ⟨#[115,117,109]⟩,Ac ⟨#[108,111,99,97,108,45,110,97,109,101]⟩,Ac ⟨#[110,97,109,101]⟩,Ac ⟨#[110,97,109,101,115,112,97,99,101,45,117,114,105]⟩,Ac ⟨#[115,116,114,105,110,103]⟩,Ac ⟨#[110,111,114,109,97,108,105,122,101,45,115,112,97,99,101]⟩,Ac ⟨#[99,111,110,99,97,116]⟩,Ac ⟨#[115,116,97,114,116,115,45,119,105,116,104]⟩,Ac ⟨#[99,111,110,116,97,105,110,115]⟩,Ac ⟨#[115,117,98,115,116,114,105,110,103,45,98,101,102,111,114,101]⟩,Ac ⟨#[115,117,98,115,116,114,105,110,103,45,97,102,116,101,114]⟩,Ac ⟨#[115,117,98,115,116,114,105,110,103]⟩,Ac ⟨#[116,114,97,110,115,108,97,116,101]⟩,Ac ⟨#[115,116,114,105,110,103,45,108,101,110,103,116,104]⟩,Ac ⟨#[98,111,111,108,101,97,110]⟩,Ac ⟨#[110,111,116]⟩,Ac ⟨#[108,97,110,103]⟩,Ac ⟨#[116,114,117,101]⟩,Ac ⟨#[102,97,108,115,101]⟩,Ac ⟨#[110,117,109,98,101,114]⟩,Ac ⟨#[102,108,111,111,114]⟩,Ac ⟨#[99,101,105,108,105,110,103]⟩,Ac ⟨#[114,111,117,110,100]⟩] 9)).alloc (Af #[Aa Ab 0,Aa Ab 0,Aa Ab 1,Aa Ab 1,Aa Ab 0,Aa Ab 0,Aa Ab 0,Aa Ab 0,Aa Ab 0,Aa Ab 2,Aa Ab 2,Aa Ab 2,Aa Ab 2,Aa Ab 2,Aa Ab 2,Aa Ab 3,Aa Ab 0,Aa Ab 1,Aa Ab 1,Aa Ab 1,Aa Ab 0,Aa Ab 0,Aa Ab 0,Aa Ab 1,Aa Ab 1,Aa Ab 1] 3)) (Af #[Aa Ab 0,Aa Ab 0,Aa Ab 1,Aa Ab 1,Aa Ab 1,Aa Ab 1,Aa Ab 1,Aa Ab 1,Aa Ab 1,Aa Ab 120,Aa Ab 2,Aa Ab 2,Aa Ab 2,Aa Ab 2,Aa Ab 3,Aa Ab 3,Aa Ab 1,Aa Ab 1,Aa Ab 1,Aa Ab 1,Aa Ab 0,Aa Ab 0,Aa Ab 1,Aa Ab 1,Aa Ab 1,Aa Ab 1] 3);rw [qo,qo,qo]at h3;replace h3:=qb h3 (Af #[Aa Ab 3,Aa Ab 3,Aa Ab 3,Aa Ab 3,Aa Ab 4,Aa Ab 4,Aa Ab 4,Aa Ab 4,Aa Ab 4,Aa Ab 4,Aa Ab 2,Aa Ab 2,Aa Ab 4,Aa Ab 4,Aa Ab 4,Aa Ab 4,Aa Ab 3,Aa Ab 2,Aa Ab 2,Aa Ab 2,Aa Ab 2,Aa Ab 2,Aa Ab 3,Aa Ab 3,Aa Ab 3,Aa Ab 3] 3);have H3:=Aside0.mk h3
 have h4:=qr ((((w.alloc (Af #[Aa Ab 0,Aa Ab 0,Ae false,Aa Ab 0] 42)).alloc (Af #[Ac ⟨#[108,97,115,116]⟩,Ac ⟨#[112,111,115,105,116,105,111,110]⟩,Ac ⟨#[99,111,117,110,116]⟩,Ac ⟨#[115,117,109]⟩,Ac ⟨#[108,111,99,97,108,45,110,97,109,101]⟩,Ac ⟨#[110,97,109,101]⟩,Ac ⟨#[110,97,109,101,115,112,97,99,101,45,117,114,105]⟩,Ac ⟨#[115,116,114,105,110,103]⟩,Ac ⟨#[110,111,114,109,97,108,105,122,101,45,115,112,97,99,101]⟩,Ac ⟨#[99,111,110,99,97,116]⟩,Ac ⟨#[115,116,97,114,116,115,45,119,105,116,104]⟩,Ac ⟨#[99,111,110,116,97,105,110,115]⟩,Ac ⟨#[115,117,98,115,116,114,105,110,103,45,98,101,102,111,114,101]⟩,Ac ⟨#[115,117,98,115,116,114,105,110,103,45,97,102,116,101,114]⟩,Ac ⟨#[115,117,98,115,116,114,105,110,103]⟩,Ac ⟨#[116,114,97,110,115,108,97,116,101]⟩,Ac ⟨#[115,116,114,105,110,103,45,108,101,110,103,116,104]⟩,Ac ⟨#[98,111,111,108,101,97,110]⟩,Ac ⟨#[110,111,116]⟩,Ac ⟨#[108,97,110,103]⟩,Ac ⟨#[116,114,117,101]⟩,Ac ⟨#[102,97,108,115,101]⟩,Ac ⟨#[110,117,109,98,101,114]⟩,Ac ⟨#[102,108,111,111,114]⟩,Ac ⟨#[99,101,105,108,105,110,103]⟩,Ac ⟨#[114,111,117,110,100]⟩] 9)).alloc (Af #[Aa Ab 0,Aa Ab 0,Aa Ab 1,Aa Ab 1,Aa Ab 0,Aa Ab 0,Aa Ab 0,Aa Ab 0,Aa Ab 0,Aa Ab 2,Aa Ab 2,Aa Ab 2,Aa Ab 2,Aa Ab 2,Aa Ab 2,Aa Ab 3,Aa Ab 0,Aa Ab 1,Aa Ab 1,Aa Ab 1,Aa Ab 0,Aa Ab 0,Aa Ab 0,Aa Ab 1,Aa Ab 1,Aa Ab 1] 3)).alloc (Af #[Aa Ab 0,Aa Ab 0,Aa Ab 1,Aa Ab 1,Aa Ab 1,Aa Ab 1,Aa Ab 1,Aa Ab 1,Aa Ab 1,Aa Ab 120,Aa Ab 2,Aa Ab 2,Aa Ab 2,Aa Ab 2,Aa Ab 3,Aa Ab 3,Aa Ab 1,Aa Ab 1,Aa Ab 1,Aa Ab 1,Aa Ab 0,Aa Ab 0,Aa Ab 1,Aa Ab 1,Aa Ab 1,Aa Ab 1] 3)) (Af #[Aa Ab 3,Aa Ab 3,Aa Ab 3,Aa Ab 3,Aa Ab 4,Aa Ab 4,Aa Ab 4,Aa Ab 4,Aa Ab 4,Aa Ab 4,Aa Ab 2,Aa Ab 2,Aa Ab 4,Aa Ab 4,Aa Ab 4,Aa Ab 4,Aa Ab 3,Aa Ab 2,Aa Ab 2,Aa Ab 2,Aa Ab 2,Aa Ab 2,Aa Ab 3,Aa Ab 3,Aa Ab 3,Aa Ab 3] 3);rw [qo,qo,qo,qo]at h4;have H4:=Aside0.mk h4;clear h0 h1 h2 h3 h4;obtain⟨R,hR0⟩:∃ R,ql2 s.toList=R:=⟨_,rfl⟩;rw [hR0];have HQ0:Aside0 (qt16 0 s.toList=R):=⟨hR0⟩;clear hR0;go_enter Tryz.func18,Tryz.ntmps18;go_wp2_with fail
 go_loopg [8] 26 (fun kq v8 w'=>∃ i:Nat,v8= Aa Ab (i:Int)∧Aside0 (kq+i=26)∧w'=(((((w.alloc (Af #[Aa Ab 0,Aa Ab 0,Ae false,Aa Ab 0] 42)).alloc (Af #[Ac ⟨#[108,97,115,116]⟩,Ac ⟨#[112,111,115,105,116,105,111,110]⟩,Ac ⟨#[99,111,117,110,116]⟩,Ac ⟨#[115,117,109]⟩,Ac ⟨#[108,111,99,97,108,45,110,97,109,101]⟩,Ac ⟨#[110,97,109,101]⟩,Ac ⟨#[110,97,109,101,115,112,97,99,101,45,117,114,105]⟩,Ac ⟨#[115,116,114,105,110,103]⟩,Ac ⟨#[110,111,114,109,97,108,105,122,101,45,115,112,97,99,101]⟩,Ac ⟨#[99,111,110,99,97,116]⟩,Ac ⟨#[115,116,97,114,116,115,45,119,105,116,104]⟩,Ac ⟨#[99,111,110,116,97,105,110,115]⟩,Ac ⟨#[115,117,98,115,116,114,105,110,103,45,98,101,102,111,114,101]⟩,Ac ⟨#[115,117,98,115,116,114,105,110,103,45,97,102,116,101,114]⟩,Ac ⟨#[115,117,98,115,116,114,105,110,103]⟩,Ac ⟨#[116,114,97,110,115,108,97,116,101]⟩,Ac ⟨#[115,116,114,105,110,103,45,108,101,110,103,116,104]⟩,Ac ⟨#[98,111,111,108,101,97,110]⟩,Ac ⟨#[110,111,116]⟩,Ac ⟨#[108,97,110,103]⟩,Ac ⟨#[116,114,117,101]⟩,Ac ⟨#[102,97,108,115,101]⟩,Ac ⟨#[110,117,109,98,101,114]⟩,Ac ⟨#[102,108,111,111,114]⟩,Ac ⟨#[99,101,105,108,105,110,103]⟩,Ac ⟨#[114,111,117,110,100]⟩] 9)).alloc (Af #[Aa Ab 0,Aa Ab 0,Aa Ab 1,Aa Ab 1,Aa Ab 0,Aa Ab 0,Aa Ab 0,Aa Ab 0,Aa Ab 0,Aa Ab 2,Aa Ab 2,Aa Ab 2,Aa Ab 2,Aa Ab 2,Aa Ab 2,Aa Ab 3,Aa Ab 0,Aa Ab 1,Aa Ab 1,Aa Ab 1,Aa Ab 0,Aa Ab 0,Aa Ab 0,Aa Ab 1,Aa Ab 1,Aa Ab 1] 3)).alloc (Af #[Aa Ab 0,Aa Ab 0,Aa Ab 1,Aa Ab 1,Aa Ab 1,Aa Ab 1,Aa Ab 1,Aa Ab 1,Aa Ab 1,Aa Ab 120,Aa Ab 2,Aa Ab 2,Aa Ab 2,Aa Ab 2,Aa Ab 3,Aa Ab 3,Aa Ab 1,Aa Ab 1,Aa Ab 1,Aa Ab 1,Aa Ab 0,Aa Ab 0,Aa Ab 1,Aa Ab 1,Aa Ab 1,Aa Ab 1] 3)).alloc (Af #[Aa Ab 3,Aa Ab 3,Aa Ab 3,Aa Ab 3,Aa Ab 4,Aa Ab 4,Aa Ab 4,Aa Ab 4,Aa Ab 4,Aa Ab 4,Aa Ab 2,Aa Ab 2,Aa Ab 4,Aa Ab 4,Aa Ab 4,Aa Ab 4,Aa Ab 3,Aa Ab 2,Aa Ab 2,Aa Ab 2,Aa Ab 2,Aa Ab 2,Aa Ab 3,Aa Ab 3,Aa Ab 3,Aa Ab 3] 3))∧Aside0 (qt16 i s.toList=R))
 case atStart=>exact⟨0,rfl,⟨rfl⟩,rfl,HQ0⟩
 case round=>
  obtain⟨i,rfl,HI,rfl,HQ⟩:=hrel;by_cases hi:i<26
  ·skip
   have h0i:(0:Int)≤(i:Int):=by omega
   have hil:(i:Int)<26:=by omega
   have hlt:decide ((i:Int)<26)=true:=by simp;omega
   have c1:=(Ai H1.out i).trans (lit_rn i hi);have c2:=(Ai H2.out i).trans (lit_rl i hi);have c3:=(Ai H3.out i).trans (lit_rm i hi);have c4:=(Ai H4.out i).trans (lit_rt i hi);have hnd:=lit_nd i hi;have hQ:=HQ.out;rw [qa24 i hi]at hQ;have hw1:wrap64 ((i:Int)+1)=((i+1:Nat):Int):=by unfold wrap64;omega
   generalize (funcsL.getD i ([],0,0,false,0))=f at *;obtain⟨nm,le,mo,nd,ty⟩:=f;dsimp only at c1 c2 c3 c4 hnd hQ;by_cases hn:nm=s.toList
   ·rw [if_pos hn]at hQ;have hq1:((ba nm).toList == s.toList)=true:=by rw [Aq,qe1];exact beq_iff_eq.mpr hn
    subst hQ;clear hn HQ;generalize ba nm=zn at *;go_wp2_with fail
    obtain⟨z0,z1,z2,z3,f0,f1,f2,f3⟩:=fd4 H0.out;generalize (((((w.alloc (Af #[Aa Ab 0,Aa Ab 0,Ae false,Aa Ab 0] 42)).alloc (Af #[Ac ⟨#[108,97,115,116]⟩,Ac ⟨#[112,111,115,105,116,105,111,110]⟩,Ac ⟨#[99,111,117,110,116]⟩,Ac ⟨#[115,117,109]⟩,Ac ⟨#[108,111,99,97,108,45,110,97,109,101]⟩,Ac ⟨#[110,97,109,101]⟩,Ac ⟨#[110,97,109,101,115,112,97,99,101,45,117,114,105]⟩,Ac ⟨#[115,116,114,105,110,103]⟩,Ac ⟨#[110,111,114,109,97,108,105,122,101,45,115,112,97,99,101]⟩,Ac ⟨#[99,111,110,99,97,116]⟩,Ac ⟨#[115,116,97,114,116,115,45,119,105,116,104]⟩,Ac ⟨#[99,111,110,116,97,105,110,115]⟩,Ac ⟨#[115,117,98,115,116,114,105,110,103,45,98,101,102,111,114,101]⟩,Ac ⟨#[115,117,98,115,116,114,105,110,103,45,97,102,116,101,114]⟩,Ac ⟨#[115,117,98,115,116,114,105,110,103]⟩,Ac ⟨#[116,114,97,110,115,108,97,116,101]⟩,Ac ⟨#[115,116,114,105,110,103,45,108,101,110,103,116,104]⟩,Ac ⟨#[98,111,111,108,101,97,110]⟩,Ac ⟨#[110,111,116]⟩,Ac ⟨#[108,97,110,103]⟩,Ac ⟨#[116,114,117,101]⟩,Ac ⟨#[102,97,108,115,101]⟩,Ac ⟨#[110,117,109,98,101,114]⟩,Ac ⟨#[102,108,111,111,114]⟩,Ac ⟨#[99,101,105,108,105,110,103]⟩,Ac ⟨#[114,111,117,110,100]⟩] 9)).alloc (Af #[Aa Ab 0,Aa Ab 0,Aa Ab 1,Aa Ab 1,Aa Ab 0,Aa Ab 0,Aa Ab 0,Aa Ab 0,Aa Ab 0,Aa Ab 2,Aa Ab 2,Aa Ab 2,Aa Ab 2,Aa Ab 2,Aa Ab 2,Aa Ab 3,Aa Ab 0,Aa Ab 1,Aa Ab 1,Aa Ab 1,Aa Ab 0,Aa Ab 0,Aa Ab 0,Aa Ab 1,Aa Ab 1,Aa Ab 1] 3)).alloc (Af #[Aa Ab 0,Aa Ab 0,Aa Ab 1,Aa Ab 1,Aa Ab 1,Aa Ab 1,Aa Ab 1,Aa Ab 1,Aa Ab 1,Aa Ab 120,Aa Ab 2,Aa Ab 2,Aa Ab 2,Aa Ab 2,Aa Ab 3,Aa Ab 3,Aa Ab 1,Aa Ab 1,Aa Ab 1,Aa Ab 1,Aa Ab 0,Aa Ab 0,Aa Ab 1,Aa Ab 1,Aa Ab 1,Aa Ab 1] 3)).alloc (Af #[Aa Ab 3,Aa Ab 3,Aa Ab 3,Aa Ab 3,Aa Ab 4,Aa Ab 4,Aa Ab 4,Aa Ab 4,Aa Ab 4,Aa Ab 4,Aa Ab 2,Aa Ab 2,Aa Ab 4,Aa Ab 4,Aa Ab 4,Aa Ab 4,Aa Ab 3,Aa Ab 2,Aa Ab 2,Aa Ab 2,Aa Ab 2,Aa Ab 2,Aa Ab 3,Aa Ab 3,Aa Ab 3,Aa Ab 3] 3))=w3 at *
    cases hg:decide (2≤i)with
    | false=>
     have g1:decide ((i:Int)≥2)=false:=by simp at hg ⊢;omega
     have g2:decide ((2:Int)≤(i:Int))=false:=by simp at hg ⊢;omega
     have hnd2:=Aside0.mk (show(false)=nd by rw [← hnd,hg];rfl);clear hnd
     skip
     go_region;go_wp2_with fail
     try rw [AV]
     refine bodyPost_ret (qd1 rfl _ _ w.heap.size 42 #[Aa Ab le,Aa Ab mo,Ae (false),Aa Ab ty] (0,0) _ rfl (qj (qk (cs':= #[Aa Ab le,Aa Ab mo,Ae (false),Aa Ab ty]) (qk (cs':= #[Aa Ab le,Aa Ab mo,Ae (false),Aa Ab 0]) (qk (cs':= #[Aa Ab le,Aa Ab mo,Ae false,Aa Ab 0]) (qk (cs':= #[Aa Ab le,Aa Ab 0,Ae false,Aa Ab 0]) H0.out 0 (Aa Ab le) rfl) 1 (Aa Ab mo) rfl) 2 (Ae (false)) rfl) 3 (Aa Ab ty) rfl)) AO rfl zm) rfl ?_;rw [hnd2.out];exact⟨rfl,AQ (Au (p:=⟨w.heap.size,3,none⟩) (Au (p:=⟨w.heap.size,2,none⟩) (Au (p:=⟨w.heap.size,1,none⟩) (Au (p:=⟨w.heap.size,0,none⟩) HB0.out (Ag _) (Aa Ab le)) (Ag _) (Aa Ab mo)) (Ag _) (Ae nd)) (Ag _) (Aa Ab ty))⟩
    | true=>
     have g1:decide ((i:Int)≥2)=true:=by simp at hg ⊢;omega
     have g2:decide ((2:Int)≤(i:Int))=true:=by simp at hg ⊢;omega
     have hnd2:=Aside0.mk (show(decide ((i:Int)≤6))=nd by rw [← hnd,hg];simp;omega);clear hnd
     skip
     go_region;go_wp2_with fail
     try rw [AV]
     refine bodyPost_ret (qd1 rfl _ _ w.heap.size 42 #[Aa Ab le,Aa Ab mo,Ae (decide ((i:Int)≤6)),Aa Ab ty] (0,0) _ rfl (qj (qk (cs':= #[Aa Ab le,Aa Ab mo,Ae (decide ((i:Int)≤6)),Aa Ab ty]) (qk (cs':= #[Aa Ab le,Aa Ab mo,Ae (decide ((i:Int)≤6)),Aa Ab 0]) (qk (cs':= #[Aa Ab le,Aa Ab mo,Ae false,Aa Ab 0]) (qk (cs':= #[Aa Ab le,Aa Ab 0,Ae false,Aa Ab 0]) H0.out 0 (Aa Ab le) rfl) 1 (Aa Ab mo) rfl) 2 (Ae (decide ((i:Int)≤6))) rfl) 3 (Aa Ab ty) rfl)) AO rfl zm) rfl ?_;rw [hnd2.out];exact⟨rfl,AQ (Au (p:=⟨w.heap.size,3,none⟩) (Au (p:=⟨w.heap.size,2,none⟩) (Au (p:=⟨w.heap.size,1,none⟩) (Au (p:=⟨w.heap.size,0,none⟩) HB0.out (Ag _) (Aa Ab le)) (Ag _) (Aa Ab mo)) (Ag _) (Ae nd)) (Ag _) (Aa Ab ty))⟩
   ·rw [if_neg hn]at hQ;have hq1:((ba nm).toList == s.toList)=false:=by rw [Aq,qe1];exact beq_eq_false_iff_ne.mpr hn
    have HQ9:=Aside0.mk hQ;clear hn HQ hQ;generalize ba nm=zn at *;go_wp2_with fail
    obtain⟨g2,rfl⟩:∃ g2,gk=g2+1:=⟨gk - 1,zan⟩;go_roundg g2
    case measure=>omega
    case rel=>exact⟨i+1,congrArg (Value.int .i64) (by omega),⟨zan⟩,rfl,HQ9⟩
  ·have hi':i=26:=by have:=HI.out;omega
   subst hi';have hQ:=HQ.out;rw [qb20]at hQ;subst hQ;obtain⟨z0,z1,z2,z3,f0,f1,f2,f3⟩:=fd4 H0.out;clear HQ hi;go_wp2_with fail
   refine bodyPost_ret (qd1 rfl _ _ w.heap.size 42 #[Aa Ab 0,Aa Ab 0,Ae false,Aa Ab 0] (0,0) _ rfl H0.out AO rfl zm) rfl ?_;exact⟨rfl,HB0.out⟩
end Go.Proofs.YtocdckniokhbbaaGreatDoor.Syn
