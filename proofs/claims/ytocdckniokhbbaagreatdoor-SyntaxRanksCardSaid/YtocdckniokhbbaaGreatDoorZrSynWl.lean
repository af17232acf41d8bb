import Derived.Test.YtocdckniokhbbaaGreatDoorZrZz
import Derived.Test.YtocdckniokhbbaaGreatDoorZrFc
import Derived.Test.YtocdckniokhbbaaGreatDoorZrSynPp
import Derived.Test.YtocdckniokhbbaaGreatDoorZrLexJ
import Derived.Test.YtocdckniokhbbaaGreatDoorZrFigG
import Derived.Test.YtocdckniokhbbaaGreatDoorZrLexM
import Derived.Test.YtocdckniokhbbaaGreatDoorZrPSx1
import Derived.Test.YtocdckniokhbbaaGreatDoorZrSynWk
import Derived.Deep.RegionHeld3
import Derived.Test.YtocdckniokhbbaaGreatDoorZrSamB
import Derived.Test.YtocdckniokhbbaaGreatDoorZrFigI
set_option linter.unusedVariables false
set_option linter.unusedSimpArgs false
open Go.Value renaming slice→Ad,bool→Ae,string→Ac,int→Aa
open Option renaming some→Az
open List renaming getElem?_eq_getElem→AH,length_append→Aq,sizeOf_lt_of_mem→Bp,length_nil→AY,length_singleton→Bi,length_cons→AE,not_mem_nil→Bm
open Go.ByteArray renaming toList_eq→AB
open Bool renaming false_eq_true→AR
open Go.Proofs.Tryz renaming prog→Am
open Go.IntKind renaming i64→Ab
open Go.Obj renaming cells→Af
open Nat renaming le_refl→Ag,zero_le→A6,le_of_lt→Ah
open Go.RowKit.Below renaming refl→Ao
set_option maxHeartbeats 8000000
set_option maxRecDepth 100000
namespace Go.Proofs.YtocdckniokhbbaaGreatDoor.Syn
open Go.RowKit Go.Shelf YtocdckniokhbbaaGreatDoorW.PrintWords YtocdckniokhbbaaGreatDoorW.PrintLast YtocdckniokhbbaaGreatDoorW.PrintMore CharB SpanA FigD FigI LexA LexF
theorem qo14:∀ (n:Nat) (s:List UInt8) (acc:List Wd),acc.length≤120→(qh5 n s acc).1.length≤120
 | 0,s,acc,h=>by simpa [qh5]using h
 | n+1,s,acc,h=>by
  simp only [qh5]
  split
  ·exact h
  ·split
   ·simp
   ·split
    ·simp
    ·exact qo14 n _ _ za3
theorem qn21 (s:List UInt8):(qn5 s).1.length≤120:=by
 unfold qn5
 split
 ·simp
 ·split
  ·exact qo14 _ _ _ (by simp)
  ·simp
def qt10 (w:Wd):PS.S93:=⟨w.1,ba w.2.1,⟨w.2.2.1,w.2.2.2⟩⟩
theorem qg19:∀ (l:List Wd) (j i:Nat) (hj:j<l.length),i<4→(wcs l)[j*4+i]?=(wc l[j])[i]?
 | [],j,i,hj,_=>by simp at hj
 | x :: l,0,i,_,hi=>by
  show(wc x ++ wcs l)[0*4+i]?=_;rw [List.getElem?_append_left (by simp [wc];omega)];simp
 | x :: l,j+1,i,hj,hi=>by
  show(wc x ++ wcs l)[(j+1)*4+i]?=_;rw [List.getElem?_append_right (by simp [wc];omega),show(j+1)*4+i - (wc x).length=j*4+i by simp [wc];omega,qg19 l j i (by simpa using hj) hi];rfl
theorem own_CS {w:World} {B:Nat} {A:Option Addr} {cap:Nat} {l:List Wd} (h:w.ownsRow B 93 4 (Ad A l.length cap) l.length (wcs l)) (hl:l.length≤1000):Kd.C PS.k93 w A l.length (l.map qt10):=by
 refine⟨by simp,by omega,fun h0=>?_⟩
 rcases h.2 with ⟨_,h1⟩ | ⟨g,cap',cur,hv,_⟩
 ·omega
 ·cases hv
  refine⟨⟨g,0,none⟩,rfl,fun j p hp=>?_⟩;have hj:j<l.length:=by have:=(List.getElem?_eq_some_iff.1 hp).1;simpa using this
  rw [List.getElem?_map,AH hj]at hp;obtain rfl:qt10 l[j]=p:=Az.inj hp;refine⟨_,rfl,PS.k93_mk w (qt10 l[j]),fun i u hu=>?_⟩;have hi:i<4:=(List.getElem?_eq_some_iff.1 hu).1;exact h.cells (g:=g) rfl (j*4+i) u (by rw [qg19 l j i hj hi];exact hu)
theorem qo16 (w:Wd):(qt10 w).f1.toList=w.2.1:=by show(ba w.2.1).toList=_;rw [AB];exact qa1 _
theorem w64s {n:Int} (h0: -9223372036854775808≤n) (h1:n≤9223372036854775807):wrap64 n=n:=by unfold wrap64;omega
theorem qm22 (l:List Wd) (hl:l.length≤1000):∀ (r:List Wd) (i n k:Nat),l.drop i=r→n≤12→3*r.length<k→PS.syntax_deep.l0 k (n:Int) (l.map qt10) (l.length:Int) (i:Int)=some (qx8 n r)
 | [],i,n,k,hd,hn,hk=>by
  have hi:l.length≤i:=by have:=congrArg List.length hd;simp at this;omega
  obtain⟨k,rfl⟩:∃ q,k=q+1:=⟨k - 1,by omega⟩;rw [PS.syntax_deep.l0,if_neg (by omega)];rfl
 | w :: r,i,n,k,hd,hn,hk=>by
  have hi:i<l.length:=by have:=congrArg List.length hd;simp at this;omega
  have hw:l[i]?=some w:=by have:=congrArg List.head? hd;rwa [List.head?_drop]at this
  have hd':l.drop (i+1)=r:=by rw [← List.tail_drop,hd];rfl
  obtain⟨q,rfl,hq⟩:∃ q,k=q+3∧3*r.length<q:=⟨k - 3,by simp at hk;omega,by simp at hk;omega⟩
  have hrd:PS.rd_T93 (l.map qt10) (i:Int)=qt10 w:=by
   unfold PS.rd_T93;rw [Int.toNat_natCast,List.getD_eq_getElem?_getD,List.getElem?_map,hw];rfl
  have hwi:wrap64 ((i:Int)+1)=((i+1:Nat):Int):=by unfold wrap64;omega
  have ih:=fun n' m hn' hm=>qm22 l hl r (i+1) n' m hd' hn' hm
  have hgo:∀ m n':Nat,n'≤13→3*r.length<m→(if(n':Int)>12 then some true else PS.syntax_deep.l0 m (n':Int) (l.map qt10) (l.length:Int) ((i+1:Nat):Int))=some (if 12<n' then true else qx8 n' r):=fun m n' h1 h2=>by
   by_cases h3:12<n'
   ·rw [if_pos (by omega),if_pos h3]
   ·rw [if_neg (by omega),if_neg h3];exact ih n' m (by omega) h2
  rw [PS.syntax_deep.l0,if_pos (by omega),if_pos (by omega),if_pos (by rw [List.length_map];omega),hrd,hwi,qo16];have hdF:qx8 n (w :: r)=if 12<(if qw1 w then n+1 else if qf1 w then n - 1 else n)then true else qx8 (if qw1 w then n+1 else if qf1 w then n - 1 else n) r:=by rw [qx8]
  rw [hdF];by_cases h1:w.1=1
  ·rw [if_pos (show(qt10 w).f0=1 from h1)]
   have hj1:(if w.2.1= [40]then PS.syntax_deep.j1 (q+2) n (l.map qt10) l.length i (qt10 w).f1 (w.2.1 == [40])else PS.syntax_deep.j1 (q+2) n (l.map qt10) l.length i (qt10 w).f1 (w.2.1 == [91]))=PS.syntax_deep.j1 (q+2) n (l.map qt10) l.length i (qt10 w).f1 (qw1 w):=by
    unfold qw1;rw [h1];by_cases h:w.2.1= [40]
    ·rw [if_pos h,h];rfl
    ·rw [if_neg h,show(w.2.1 == [40])=false by simpa using h];simp
   rw [hj1,PS.syntax_deep.j1,qo16,hwi];by_cases ho:qw1 w=true
   ·rw [if_pos ho,if_pos ho,w64s (by omega) (by omega)];exact hgo (q+1) (n+1) (by omega) (by omega)
   ·rw [if_neg ho,if_neg ho]
    have hj2:(if w.2.1= [41]then PS.syntax_deep.j2 (q+1) n (l.map qt10) l.length i (w.2.1 == [41])else PS.syntax_deep.j2 (q+1) n (l.map qt10) l.length i (w.2.1 == [93]))=PS.syntax_deep.j2 (q+1) n (l.map qt10) l.length i (qf1 w):=by
     unfold qf1;rw [h1];by_cases h:w.2.1= [41]
     ·rw [if_pos h,h];rfl
     ·rw [if_neg h,show(w.2.1 == [41])=false by simpa using h];simp
    rw [hj2,PS.syntax_deep.j2,hwi];by_cases hc:qf1 w=true
    ·rw [if_pos hc,if_pos hc]
     have hm:mx (wrap64 ((n:Int) - 1)) 0=((n - 1:Nat):Int):=by
      rw [w64s (by omega) (by omega)];unfold mx
      split<;>omega
     rw [hm];exact hgo q (n - 1) (by omega) hq
    ·rw [if_neg hc,if_neg hc];exact hgo q n (by omega) hq
  ·rw [if_neg (show ¬ (qt10 w).f0=1 from h1)];have ho:qw1 w=false:=by unfold qw1;simp [h1]
   have hc:qf1 w=false:=by unfold qf1;simp [h1]
   rw [ho,hc];simp only [AR,if_false];rw [if_neg (by omega)];exact ih n (q+2) hn (by omega)
theorem ql22 (l:List Wd) (hl:l.length≤1000) (W:World) (A:Option Addr) (cap B:Nat) (ho:W.ownsRow B 93 4 (Ad A l.length cap) l.length (wcs l)) :
  Calls Am 25 #[Ad A l.length cap] W (fun e w'=>e= .returned (Ae (qx8 0 l))∧Below W.heap.size W w'):=by
 have hm:(l.map qt10).length=l.length:=by simp
 have h:=PS.syntax_deep.calls 3001 A cap (l.map qt10) (qx8 0 l) W (by rw [hm];exact own_CS ho hl) (by rw [hm];exact qa9 ho) (by unfold PS.syntax_deep.f;rw [hm];exact qm22 l hl l 0 0 3001 rfl (by omega) (by omega))
 rwa [hm]at h
theorem qy7 (s:ByteArray) (w:World) (hT:ql7 w) (hs:s.size≤9223372036854775807):Calls Am 12 #[Ac s] w (ParA w (qv1 s.data.toList).1 (qv1 s.data.toList).2):=by
 have hlen:=qn21 s.data.toList;have B1:=(Ao w.heap.size w).alloc (Ag _) (Af #[Aa Ab 0,Ac ⟨#[]⟩,Aa Ab 0,Aa Ab 0,Ae false,Ad none 0 0,Ad none 0 0] 28);have B2:=B1.alloc B1.size (Af #[Aa Ab 0] 29);have hlex:=LexM.lex_call s _ hs (qz1 hT B2);generalize hR:qn5 s.data.toList=R at hlen hlex;obtain⟨l,n⟩:=R;have hp:qv1 s.data.toList=(if n=0 then(if qx8 0 l=true then(ex0,34)else match qk2 l with | some e=>(e,0) | none=>(ex0,31))else(ex0,n):Ex × Int):=by unfold qv1;rw [hR];rfl
 rw [hp];simp only at hlen;have hlen:l.length≤1000:=by omega
 have hlex':Calls Am 24 #[Ac s] ((w.alloc (Af #[Aa Ab 0,Ac ⟨#[]⟩,Aa Ab 0,Aa Ab 0,Ae false,Ad none 0 0,Ad none 0 0] 28)).alloc (Af #[Aa Ab 0] 29)) (ql10 ((w.alloc (Af #[Aa Ab 0,Ac ⟨#[]⟩,Aa Ab 0,Aa Ab 0,Ae false,Ad none 0 0,Ad none 0 0] 28)).alloc (Af #[Aa Ab 0] 29)) l n):=hlex;by_cases hn:n=0
 ·subst hn;rw [if_pos rfl];have hdeep:=fun W A cap B=>ql22 l hlen W A cap B;by_cases hd:qx8 0 l=true
  ·rw [if_pos hd];rw [hd]at hdeep;exact qj18 s w l hlex' hdeep
  ·rw [if_neg hd];rw [Bool.eq_false_iff.2 hd]at hdeep;have hor:=fun p A cap W h=>qt24 p A cap l l (80*l.length+60) (Ag _) qr26 W h
   cases hpb:ql2 (80*l.length+60) 0 l with
   | none=>
    rw [hpb]at hor;have hpw:qk2 l=none:=by unfold qk2;rw [hpb]
    rw [hpw];exact qi18 s w l hlex' hdeep hlen hor
   | some xr=>
    obtain⟨x,r⟩:=xr;rw [hpb]at hor
    cases hr:r with
    | nil=>
     subst hr;have hpw:qk2 l=some x:=by unfold qk2;rw [hpb]
     rw [hpw];exact qe18 s w l x hlex' hdeep hlen hor
    | cons y ys=>
     have hpw:qk2 l=none:=by unfold qk2;rw [hpb,hr]
     rw [hpw];refine qg18 s w l x r (by rw [hr];simp) ?_ hlex' hdeep hlen hor;obtain⟨u,hu,_⟩:=(qk3 _).bin (by omega) hpb;have:=congrArg List.length hu;rw [Aq]at this;omega
 ·rw [if_neg hn];exact qr20 s w l n hn hlex'
end Go.Proofs.YtocdckniokhbbaaGreatDoor.Syn
namespace Go.Proofs.YtocdckniokhbbaaGreatDoor.Syn
open Go.RowKit Go.Shelf YtocdckniokhbbaaGreatDoorW.PrintWords YtocdckniokhbbaaGreatDoorW.PrintLast YtocdckniokhbbaaGreatDoorW.PrintMore CharB SpanA FigD FigI LexA LexF
theorem qz17 (op:Int) (s:List UInt8) (v t:Int) (abs:Bool) (kids:List Ex) (steps:List St) (hk:∀ x ∈ kids,ql16 x) (hs:∀ st ∈ steps,∀ x ∈ prOf st,ql16 x):ql16 (.mk op s v t abs kids steps):=by
 intro E2 w F G op' s' d' t' b' A1 n1 c1 A2 n2 c2 op_ s_ d_ t_ b_ A1_ n1_ c1_ A2_ n2_ c2_ hR hR2 hw hw2;obtain⟨op2,s2,v2,t2,abs2,kids2,steps2⟩:=E2;obtain⟨rfl,rfl,rfl,rfl,rfl,rfl,_,⟨xs,hx1,hx2⟩,rfl,_,⟨ys,hy1,hy2⟩⟩:=hR.inv;obtain⟨rfl,rfl,rfl,rfl,rfl,rfl,_,⟨us,hu1,hu2⟩,rfl,_,⟨ts,ht1,ht2⟩⟩:=hR2.inv;simp only [wfE]at hw hw2;obtain⟨_,_,_,_,wl,ws,wk,wst⟩:=hw;obtain⟨_,_,_,_,wl2,ws2,wk2,wst2⟩:=hw2;have hc:=fun W (hb:Below w.heap.size w W)=>qn14 kids hk kids2 W F G A1 c1 A1_ c1_ xs us (hx1.keeps (Keeps.of_below hb)) (hx2.keeps (Keeps.of_below hb)) (hu1.keeps (Keeps.of_below hb)) (hu2.keeps (Keeps.of_below hb)) wk wk2 wl wl2;by_cases h1:op'=op_;rotate_left
 ·exact sr_op _ _ _ _ _ _ _ _ _ _ _ _ _ _ w _ _ _ _ _ _ _ _ h1
 by_cases h2:s=s2;rotate_left
 ·exact sr_s _ _ _ _ _ _ _ _ _ _ _ _ _ _ w _ _ _ _ _ _ _ _ h1 h2
 by_cases h3:d'=d_;rotate_left
 ·exact sr_v _ _ _ _ _ _ _ _ _ _ _ _ _ _ w _ _ _ _ _ _ _ _ h1 h2 h3
 by_cases h4:t'=t_;rotate_left
 ·exact sr_t _ _ _ _ _ _ _ _ _ _ _ _ _ _ w _ _ _ _ _ _ _ _ h1 h2 h3 h4
 by_cases h5:b'=b_;rotate_left
 ·exact sr_abs _ _ _ _ _ _ _ _ _ _ _ _ _ _ w _ _ _ _ _ _ _ _ h1 h2 h3 h4 h5
 by_cases h6:steps.length=steps2.length;rotate_left
 ·exact sr_len _ _ _ _ _ _ _ _ _ _ _ _ _ _ w _ _ _ _ _ _ _ _ h1 h2 h3 h4 h5 h6
 cases hq:qq1 kids kids2 with
 | false=>exact sr_kids _ _ _ _ _ _ _ _ _ _ _ _ _ _ w _ _ _ _ _ _ _ _ h1 h2 h3 h4 h5 h6 (fun W hb=>by have:=hc W hb;rwa [hq]at this) hq
 | true=>exact qw23 _ _ _ _ _ _ _ _ _ _ _ _ _ _ w _ _ _ _ _ _ _ _ h1 h2 h3 h4 h5 h6 F G ys ts hs hy1 hy2 ht1 ht2 wst wst2 ws ws2 (fun W hb=>by have:=hc W hb;rwa [hq]at this) hq
theorem qs7:∀ (n:Nat) (x:Ex),SizeOf.sizeOf x≤n→ql16 x
 | 0,.mk op s v t abs kids steps,h=>by simp at h
 | n+1,.mk op s v t abs kids steps,h=>by
  refine qz17 op s v t abs kids steps (fun x hx=>qs7 n x ?_) (fun st hst x hx=>qs7 n x ?_)
  ·have:=Bp hx;simp at h;omega
  ·obtain⟨a,b,c,d,ps⟩:=st;have h1:=Bp hst;have h2:=Bp (show x ∈ ps from hx);simp at h h1;omega
theorem qq9 (x:Ex):ql16 x:=qs7 _ x (Ag _)
theorem qb24 (HP:qo17) (E E':Ex) (w:World) (hT:ql7 w) (F G:Nat→Prop) (op:Int) (s:ByteArray) (d t:Int) (b:Bool) (A1:Option Addr) (n1 c1:Nat) (A2:Option Addr) (n2 c2:Nat) (op':Int) (s':ByteArray) (d' t':Int) (b':Bool) (A1':Option Addr) (n1' c1':Nat) (A2':Option Addr) (n2' c2':Nat) (hR:RepE F w E [Aa Ab op,Ac s,Aa Ab d,Aa Ab t,Ae b,Ad A1 n1 c1,Ad A2 n2 c2]) (hR':RepE G w E' [Aa Ab op',Ac s',Aa Ab d',Aa Ab t',Ae b',Ad A1' n1' c1',Ad A2' n2' c2']) (hw:wfE E) (hw':wfE E'):Calls Am 6 #[.agg #[Aa Ab op,Ac s,Aa Ab d,Aa Ab t,Ae b,Ad A1 n1 c1,Ad A2 n2 c2],.agg #[Aa Ab op',Ac s',Aa Ab d',Aa Ab t',Ae b',Ad A1' n1' c1',Ad A2' n2' c2']] w fun e w'=>e= .returned (Ae true)∧Below w.heap.size w w':=by
 have B2:=((Ao w.heap.size w).alloc (Ag _) (Af #[Aa Ab op,Ac s,Aa Ab d,Aa Ab t,Ae b,Ad A1 n1 c1,Ad A2 n2 c2] 28)).alloc (by simp) (Af #[Aa Ab op',Ac s',Aa Ab d',Aa Ab t',Ae b',Ad A1' n1' c1',Ad A2' n2' c2'] 28);have HB2:=Aside0.mk B2;have S2:((w.alloc (Af #[Aa Ab op,Ac s,Aa Ab d,Aa Ab t,Ae b,Ad A1 n1 c1,Ad A2 n2 c2] 28)).alloc (Af #[Aa Ab op',Ac s',Aa Ab d',Aa Ab t',Ae b',Ad A1' n1' c1',Ad A2' n2' c2'] 28)).heap.size=w.heap.size+2:=by simp
 have up:∀ {W:World},Below ((w.alloc (Af #[Aa Ab op,Ac s,Aa Ab d,Aa Ab t,Ae b,Ad A1 n1 c1,Ad A2 n2 c2] 28)).alloc (Af #[Aa Ab op',Ac s',Aa Ab d',Aa Ab t',Ae b',Ad A1' n1' c1',Ad A2' n2' c2'] 28)).heap.size ((w.alloc (Af #[Aa Ab op,Ac s,Aa Ab d,Aa Ab t,Ae b,Ad A1 n1 c1,Ad A2 n2 c2] 28)).alloc (Af #[Aa Ab op',Ac s',Aa Ab d',Aa Ab t',Ae b',Ad A1' n1' c1',Ad A2' n2' c2'] 28)) W→Below w.heap.size w W:=fun hb=>B2.trans (hb.mono B2.size);have HF1:=Aside0.mk (fun W (hb:Below ((w.alloc (Af #[Aa Ab op,Ac s,Aa Ab d,Aa Ab t,Ae b,Ad A1 n1 c1,Ad A2 n2 c2] 28)).alloc (Af #[Aa Ab op',Ac s',Aa Ab d',Aa Ab t',Ae b',Ad A1' n1' c1',Ad A2' n2' c2'] 28)).heap.size ((w.alloc (Af #[Aa Ab op,Ac s,Aa Ab d,Aa Ab t,Ae b,Ad A1 n1 c1,Ad A2 n2 c2] 28)).alloc (Af #[Aa Ab op',Ac s',Aa Ab d',Aa Ab t',Ae b',Ad A1' n1' c1',Ad A2' n2' c2'] 28)) W)=>qp17 E W F op s d t b A1 n1 c1 A2 n2 c2 (hR.keeps (Keeps.of_below (up hb))) hw);have HF2:=Aside0.mk (fun W (hb:Below ((w.alloc (Af #[Aa Ab op,Ac s,Aa Ab d,Aa Ab t,Ae b,Ad A1 n1 c1,Ad A2 n2 c2] 28)).alloc (Af #[Aa Ab op',Ac s',Aa Ab d',Aa Ab t',Ae b',Ad A1' n1' c1',Ad A2' n2' c2'] 28)).heap.size ((w.alloc (Af #[Aa Ab op,Ac s,Aa Ab d,Aa Ab t,Ae b,Ad A1 n1 c1,Ad A2 n2 c2] 28)).alloc (Af #[Aa Ab op',Ac s',Aa Ab d',Aa Ab t',Ae b',Ad A1' n1' c1',Ad A2' n2' c2'] 28)) W)=>qp17 E' W G op' s' d' t' b' A1' n1' c1' A2' n2' c2' (hR'.keeps (Keeps.of_below (up hb))) hw');have HW:=Aside0.mk (fun W (hb:Below ((w.alloc (Af #[Aa Ab op,Ac s,Aa Ab d,Aa Ab t,Ae b,Ad A1 n1 c1,Ad A2 n2 c2] 28)).alloc (Af #[Aa Ab op',Ac s',Aa Ab d',Aa Ab t',Ae b',Ad A1' n1' c1',Ad A2' n2' c2'] 28)).heap.size ((w.alloc (Af #[Aa Ab op,Ac s,Aa Ab d,Aa Ab t,Ae b,Ad A1 n1 c1,Ad A2 n2 c2] 28)).alloc (Af #[Aa Ab op',Ac s',Aa Ab d',Aa Ab t',Ae b',Ad A1' n1' c1',Ad A2' n2' c2'] 28)) W)=>qb15 HP W (qz1 hT (up hb)))
 have HC1:=Aside0.mk (fun W (hb:Below ((w.alloc (Af #[Aa Ab op,Ac s,Aa Ab d,Aa Ab t,Ae b,Ad A1 n1 c1,Ad A2 n2 c2] 28)).alloc (Af #[Aa Ab op',Ac s',Aa Ab d',Aa Ab t',Ae b',Ad A1' n1' c1',Ad A2' n2' c2'] 28)).heap.size ((w.alloc (Af #[Aa Ab op,Ac s,Aa Ab d,Aa Ab t,Ae b,Ad A1 n1 c1,Ad A2 n2 c2] 28)).alloc (Af #[Aa Ab op',Ac s',Aa Ab d',Aa Ab t',Ae b',Ad A1' n1' c1',Ad A2' n2' c2'] 28)) W)=>qz13 E E' W F G _ _ _ _ _ _ _ _ _ _ _ _ _ _ _ _ _ _ _ _ _ _ (hR.keeps (Keeps.of_below (up hb))) (hR'.keeps (Keeps.of_below (up hb))) hw hw');have HC2:=Aside0.mk (fun W (hb:Below ((w.alloc (Af #[Aa Ab op,Ac s,Aa Ab d,Aa Ab t,Ae b,Ad A1 n1 c1,Ad A2 n2 c2] 28)).alloc (Af #[Aa Ab op',Ac s',Aa Ab d',Aa Ab t',Ae b',Ad A1' n1' c1',Ad A2' n2' c2'] 28)).heap.size ((w.alloc (Af #[Aa Ab op,Ac s,Aa Ab d,Aa Ab t,Ae b,Ad A1 n1 c1,Ad A2 n2 c2] 28)).alloc (Af #[Aa Ab op',Ac s',Aa Ab d',Aa Ab t',Ae b',Ad A1' n1' c1',Ad A2' n2' c2'] 28)) W)=>qq9 E E' W F G _ _ _ _ _ _ _ _ _ _ _ _ _ _ _ _ _ _ _ _ _ _ (hR.keeps (Keeps.of_below (up hb))) (hR'.keeps (Keeps.of_below (up hb))) hw hw');have hC3:=fun W (hb:Below ((w.alloc (Af #[Aa Ab op,Ac s,Aa Ab d,Aa Ab t,Ae b,Ad A1 n1 c1,Ad A2 n2 c2] 28)).alloc (Af #[Aa Ab op',Ac s',Aa Ab d',Aa Ab t',Ae b',Ad A1' n1' c1',Ad A2' n2' c2'] 28)).heap.size ((w.alloc (Af #[Aa Ab op,Ac s,Aa Ab d,Aa Ab t,Ae b,Ad A1 n1 c1,Ad A2 n2 c2] 28)).alloc (Af #[Aa Ab op',Ac s',Aa Ab d',Aa Ab t',Ae b',Ad A1' n1' c1',Ad A2' n2' c2'] 28)) W)=>qz13 E E W F F _ _ _ _ _ _ _ _ _ _ _ _ _ _ _ _ _ _ _ _ _ _ (hR.keeps (Keeps.of_below (up hb))) (hR.keeps (Keeps.of_below (up hb))) hw hw;rw [qb6]at hC3;have HC3:=Aside0.mk hC3;have HU:=Aside0.mk @up;generalize qx1 E E'=R at *;have hA:=qa (qm w (Af #[Aa Ab op,Ac s,Aa Ab d,Aa Ab t,Ae b,Ad A1 n1 c1,Ad A2 n2 c2] 28)) (Af #[Aa Ab op',Ac s',Aa Ab d',Aa Ab t',Ae b',Ad A1' n1' c1',Ad A2' n2' c2'] 28);have hB:=qm (w.alloc (Af #[Aa Ab op,Ac s,Aa Ab d,Aa Ab t,Ae b,Ad A1 n1 c1,Ad A2 n2 c2] 28)) (Af #[Aa Ab op',Ac s',Aa Ab d',Aa Ab t',Ae b',Ad A1' n1' c1',Ad A2' n2' c2'] 28);rw [show(w.alloc (Af #[Aa Ab op,Ac s,Aa Ab d,Aa Ab t,Ae b,Ad A1 n1 c1,Ad A2 n2 c2] 28)).heap.size=w.heap.size+1 by simp]at hB;obtain⟨ac0,ac1,ac2,ac3,ac4,ac5,ac6⟩:=fc7 hA;obtain⟨bc0,bc1,bc2,bc3,bc4,bc5,bc6⟩:=fc7 hB
 have KS:Aside0 (∀ W',Below ((w.alloc (Af #[Aa Ab op,Ac s,Aa Ab d,Aa Ab t,Ae b,Ad A1 n1 c1,Ad A2 n2 c2] 28)).alloc (Af #[Aa Ab op',Ac s',Aa Ab d',Aa Ab t',Ae b',Ad A1' n1' c1',Ad A2' n2' c2'] 28)).heap.size ((w.alloc (Af #[Aa Ab op,Ac s,Aa Ab d,Aa Ab t,Ae b,Ad A1 n1 c1,Ad A2 n2 c2] 28)).alloc (Af #[Aa Ab op',Ac s',Aa Ab d',Aa Ab t',Ae b',Ad A1' n1' c1',Ad A2' n2' c2'] 28)) W'→W'.cell? ⟨w.heap.size,0,none⟩=some (Aa Ab op)∧W'.cell? ⟨w.heap.size,1,none⟩=some (Ac s)∧W'.cell? ⟨w.heap.size,2,none⟩=some (Aa Ab d)∧W'.cell? ⟨w.heap.size,3,none⟩=some (Aa Ab t)∧W'.cell? ⟨w.heap.size,4,none⟩=some (Ae b)∧W'.cell? ⟨w.heap.size,5,none⟩=some (Ad A1 n1 c1)∧W'.cell? ⟨w.heap.size,6,none⟩=some (Ad A2 n2 c2)∧W'.cell? ⟨w.heap.size+1,0,none⟩=some (Aa Ab op')∧W'.cell? ⟨w.heap.size+1,1,none⟩=some (Ac s')∧W'.cell? ⟨w.heap.size+1,2,none⟩=some (Aa Ab d')∧W'.cell? ⟨w.heap.size+1,3,none⟩=some (Aa Ab t')∧W'.cell? ⟨w.heap.size+1,4,none⟩=some (Ae b')∧W'.cell? ⟨w.heap.size+1,5,none⟩=some (Ad A1' n1' c1')∧W'.cell? ⟨w.heap.size+1,6,none⟩=some (Ad A2' n2' c2')∧Below ((w.alloc (Af #[Aa Ab op,Ac s,Aa Ab d,Aa Ab t,Ae b,Ad A1 n1 c1,Ad A2 n2 c2] 28)).alloc (Af #[Aa Ab op',Ac s',Aa Ab d',Aa Ab t',Ae b',Ad A1' n1' c1',Ad A2' n2' c2'] 28)).heap.size ((w.alloc (Af #[Aa Ab op,Ac s,Aa Ab d,Aa Ab t,Ae b,Ad A1 n1 c1,Ad A2 n2 c2] 28)).alloc (Af #[Aa Ab op',Ac s',Aa Ab d',Aa Ab t',Ae b',Ad A1' n1' c1',Ad A2' n2' c2'] 28)) W'):=⟨fun W' hb=>⟨(hb.cell zbc).trans ac0,(hb.cell zbc).trans ac1,(hb.cell zbc).trans ac2,(hb.cell zbc).trans ac3,(hb.cell zbc).trans ac4,(hb.cell zbc).trans ac5,(hb.cell zbc).trans ac6,(hb.cell zba).trans bc0,(hb.cell zba).trans bc1,(hb.cell zba).trans bc2,(hb.cell zba).trans bc3,(hb.cell zba).trans bc4,(hb.cell zba).trans bc5,(hb.cell zba).trans bc6,hb⟩⟩
 have BD:=Aside0.mk (Ao ((w.alloc (Af #[Aa Ab op,Ac s,Aa Ab d,Aa Ab t,Ae b,Ad A1 n1 c1,Ad A2 n2 c2] 28)).alloc (Af #[Aa Ab op',Ac s',Aa Ab d',Aa Ab t',Ae b',Ad A1' n1' c1',Ad A2' n2' c2'] 28)).heap.size ((w.alloc (Af #[Aa Ab op,Ac s,Aa Ab d,Aa Ab t,Ae b,Ad A1 n1 c1,Ad A2 n2 c2] 28)).alloc (Af #[Aa Ab op',Ac s',Aa Ab d',Aa Ab t',Ae b',Ad A1' n1' c1',Ad A2' n2' c2'] 28)));clear hA hB hR hR' hw hw' hT HP B2 S2 hC3 up;go_enter Tryz.func6,Tryz.ntmps6;go_wp2_with fail
 refine(HF1.out _ BD.out).mono ?_;rintro e w3 ⟨x1,rfl,b3⟩;have BE3:=Aside0.mk (BD.out.trans (b3.mono BD.out.size));clear b3 ac0 bc0 ac1 bc1 ac2 bc2 ac3 bc3 ac4 bc4 ac5 bc5 ac6 bc6;obtain⟨ad0,ad1,ad2,ad3,ad4,ad5,ad6,bd0,bd1,bd2,bd3,bd4,bd5,bd6,_⟩:=KS.out _ BE3.out
 cases x1 with
 | false=>
  go_wp2_with fail
  refine(HW.out _ BE3.out).mono ?_;rintro e w9 ⟨rfl,b9⟩;have HB9:=Aside0.mk (HU.out (BE3.out.trans (b9.mono BE3.out.size)));clear b9;go_wp2_with fail
  go_ret;exact⟨rfl,HB9.out⟩
 | true=>
  go_wp2_with fail
  refine(HF2.out _ BE3.out).mono ?_;rintro e w2 ⟨x2,rfl,b2⟩;have BE2:=Aside0.mk (BE3.out.trans (b2.mono BE3.out.size));clear b2 ad0 bd0 ad1 bd1 ad2 bd2 ad3 bd3 ad4 bd4 ad5 bd5 ad6 bd6
  cases x2 with
  | false=>
   go_wp2_with fail
   refine(HW.out _ BE2.out).mono ?_;rintro e w9 ⟨rfl,b9⟩;have HB9:=Aside0.mk (HU.out (BE2.out.trans (b9.mono BE2.out.size)));clear b9;go_wp2_with fail
   go_ret;exact⟨rfl,HB9.out⟩
  | true=>
   obtain⟨ad0,ad1,ad2,ad3,ad4,ad5,ad6,bd0,bd1,bd2,bd3,bd4,bd5,bd6,_⟩:=KS.out _ BE2.out;go_wp2_with fail
   have BX:=Aside0.mk (Below.drew BE2.out);go_region_held3 (fun W'=>W'.cell? ⟨w.heap.size,0,none⟩=some (Aa Ab op)∧W'.cell? ⟨w.heap.size,1,none⟩=some (Ac s)∧W'.cell? ⟨w.heap.size,2,none⟩=some (Aa Ab d)∧W'.cell? ⟨w.heap.size,3,none⟩=some (Aa Ab t)∧W'.cell? ⟨w.heap.size,4,none⟩=some (Ae b)∧W'.cell? ⟨w.heap.size,5,none⟩=some (Ad A1 n1 c1)∧W'.cell? ⟨w.heap.size,6,none⟩=some (Ad A2 n2 c2)∧W'.cell? ⟨w.heap.size+1,0,none⟩=some (Aa Ab op')∧W'.cell? ⟨w.heap.size+1,1,none⟩=some (Ac s')∧W'.cell? ⟨w.heap.size+1,2,none⟩=some (Aa Ab d')∧W'.cell? ⟨w.heap.size+1,3,none⟩=some (Aa Ab t')∧W'.cell? ⟨w.heap.size+1,4,none⟩=some (Ae b')∧W'.cell? ⟨w.heap.size+1,5,none⟩=some (Ad A1' n1' c1')∧W'.cell? ⟨w.heap.size+1,6,none⟩=some (Ad A2' n2' c2')∧Below ((w.alloc (Af #[Aa Ab op,Ac s,Aa Ab d,Aa Ab t,Ae b,Ad A1 n1 c1,Ad A2 n2 c2] 28)).alloc (Af #[Aa Ab op',Ac s',Aa Ab d',Aa Ab t',Ae b',Ad A1' n1' c1',Ad A2' n2' c2'] 28)).heap.size ((w.alloc (Af #[Aa Ab op,Ac s,Aa Ab d,Aa Ab t,Ae b,Ad A1 n1 c1,Ad A2 n2 c2] 28)).alloc (Af #[Aa Ab op',Ac s',Aa Ab d',Aa Ab t',Ae b',Ad A1' n1' c1',Ad A2' n2' c2'] 28)) W') (first | with_reducible exact KS.out _ BE9.out | with_reducible exact KS.out _ BE6.out | with_reducible exact KS.out _ BE5.out | with_reducible exact KS.out _ BE4.out | with_reducible exact KS.out _ BX.out) (first | ((fail_if_success have hh:=BE4);go_at_call 16;refine(HC1.out _ BX.out).mono ?_;rintro e w4 ⟨rfl,b4⟩;have BE4:=Aside0.mk (BX.out.trans (b4.mono BX.out.size));clear b4) | (go_at_call 14;refine(HC2.out _ BE4.out).mono ?_;rintro e w5 ⟨rfl,b5⟩;have BE5:=Aside0.mk (BE4.out.trans (b5.mono BE4.out.size));clear b5) | (go_at_call 16;refine(HC3.out _ BE5.out).mono ?_;rintro e w6 ⟨rfl,b6⟩;have BE6:=Aside0.mk (BE5.out.trans (b6.mono BE5.out.size));clear b6) | (go_at_call 11;refine(HW.out _ BE6.out).mono ?_;rintro e w9 ⟨rfl,b9⟩;have BE9:=Aside0.mk (BE6.out.trans (b9.mono BE6.out.size));clear b9))
   all_goals (go_wp2_with fail;go_ret;exact⟨by first | rfl | (simp;done),HU.out BE9.out⟩)
theorem sameW (E:Ex) (op:Int) (s:ByteArray) (d t:Int) (b:Bool) (A1:Option Addr) (n1 c1:Nat) (A2:Option Addr) (n2 c2:Nat) (E':Ex) (op':Int) (s':ByteArray) (d' t':Int) (b':Bool) (A1':Option Addr) (n1' c1':Nat) (A2':Option Addr) (n2' c2':Nat) (w:World) (hT:ql7 w) (h:RepE qj10 w E [Aa Ab op,Ac s,Aa Ab d,Aa Ab t,Ae b,Ad A1 n1 c1,Ad A2 n2 c2]∧wfE E) (h':RepE qj10 w E' [Aa Ab op',Ac s',Aa Ab d',Aa Ab t',Ae b',Ad A1' n1' c1',Ad A2' n2' c2']∧wfE E'):Calls Am 6 #[.agg #[Aa Ab op,Ac s,Aa Ab d,Aa Ab t,Ae b,Ad A1 n1 c1,Ad A2 n2 c2],.agg #[Aa Ab op',Ac s',Aa Ab d',Aa Ab t',Ae b',Ad A1' n1' c1',Ad A2' n2' c2']] w fun e w'=>e= .returned (Ae true)∧Below w.heap.size w w':=
 qb24 (fun s w hT hs=>qy7 s w hT hs) E E' w hT qj10 qj10 op s d t b A1 n1 c1 A2 n2 c2 op' s' d' t' b' A1' n1' c1' A2' n2' c2' h.1 h'.1 h.2 h'.2
theorem read_ex {H:Type} {enc:TypeId × Value→H} {w:World} {base:Nat} {sp:Nat→Bool} {held:Bool} {r:Reach} {b0:Nat} {v:Value} {d:DataW H} {p:List MemPlace} (hv:Value.okWide Am w r b0 28 v) (h:DataW.Trod enc Am w base sp held 28 v d p) :
  ∃ (E:Ex) (op:Int) (s:ByteArray) (d t:Int) (b:Bool) (A1:Option Addr) (n1 c1:Nat) (A2:Option Addr) (n2 c2:Nat),v= .agg #[Aa Ab op,Ac s,Aa Ab d,Aa Ab t,Ae b,Ad A1 n1 c1,Ad A2 n2 c2]∧(RepE qj10 w E [Aa Ab op,Ac s,Aa Ab d,Aa Ab t,Ae b,Ad A1 n1 c1,Ad A2 n2 c2]∧wfE E):=by
 obtain⟨E,cs,rfl,h1,h2⟩:=ql20 hv h;obtain⟨op,s,v,t,abs,kids,steps⟩:=E;have h1':=h1;simp only [RepE]at h1;obtain⟨K,S,rfl,⟨A,c,xs,rfl,_⟩,⟨A',c',xs',rfl,_⟩⟩:=h1;exact⟨.mk op s v t abs kids steps,op,ba s,v,t,abs,A,kids.length,c,A',steps.length,c',rfl,h1',h2⟩
end Go.Proofs.YtocdckniokhbbaaGreatDoor.Syn
namespace Go.Proofs.YtocdckniokhbbaaGreatDoor.Syn
open LexA
def okW (w:Wd):Prop:=qp10 w.2.2.1∧qp10 w.2.2.2∧w.2.1.length≤1000
def okR (r:List Wd):Prop:=r.length≤1000∧ ∀ w ∈ r,okW w
theorem okR.tail {w:Wd} {r:List Wd} (h:okR (w :: r)):okR r∧r.length<(w :: r).length:=⟨⟨by have:=h.1;simp at this;omega,fun v hv=>h.2 v (List.mem_cons_of_mem _ hv)⟩,by simp⟩
theorem okR.head {w:Wd} {r:List Wd} (h:okR (w :: r)):okW w:=h.2 w (List.mem_cons_self ..)
theorem okR.take {k:Int} {s:List UInt8} {r r1:List Wd} (h:okR r) (ht:takeW k s r=some r1):okR r1∧r1.length<r.length:=by
 obtain⟨x,rfl,_⟩:=qv ht;exact h.tail
theorem ql5 (n:Int) (h1: -9223372036854775808≤n) (h2:n≤9223372036854775807):qp10 n:=by
 unfold qp10 Lit.wf;simp [IntKind.min,IntKind.max,IntKind.signed,IntKind.bits];omega
theorem qc5 {n:Nat} (h:n≤3000):n≤maxLen:=by unfold maxLen;omega
theorem qh23 {op:Int} (ho:qp10 op) {l:List Ex} (hl:l.length≤3000) (h:wfL l):wfE (mkW op l):=by
 unfold mkW;simp only [wfE,wfS];exact⟨ho,ql5 0 (by omega) (by omega),ql5 0 (by omega) (by omega),A6 _,qc5 hl,A6 _,h,trivial⟩
theorem qe9 (b:Bool) {l:List Ex} {ss:List St} (hl:l.length≤3000) (hs:ss.length≤3000) (h:wfL l) (h2:wfS ss):wfE (.mk 16 [] 0 0 b l ss):=by
 simp only [wfE];exact⟨ql5 16 (by omega) (by omega),ql5 0 (by omega) (by omega),ql5 0 (by omega) (by omega),A6 _,qc5 hl,qc5 hs,h,h2⟩
theorem qd15:∀ {l m:List Ex},wfL l→wfL m→wfL (l ++ m)
 | [],m,_,h=>h
 | e :: l,m,h,k=>⟨h.1,qd15 h.2 k⟩
theorem qc15:∀ {l m:List St},wfS l→wfS m→wfS (l ++ m)
 | [],m,_,h=>h
 | e :: l,m,h,k=>⟨h.1,qc15 h.2 k⟩
theorem wf_any:wfX anyT:=by
 unfold anyT;simp only [wfX,wfL];exact⟨ql5 11 (by omega) (by omega),ql5 3 (by omega) (by omega),A6 _,A6 _,trivial⟩
theorem qj24 (k:Nat):∀ q ∈ qy1 k,1≤q.2∧q.2≤13:=by
 match k with
 | 0 | 1 | 2 | 3 | 4 | 5=>decide
 | n+6=>intro q hq;cases hq
theorem op_wf {k:Nat} {r:List Wd} {o:Int × List Wd} (hr:okR r) (h:qv15 k r=some o):qp10 o.1∧okR o.2∧o.2.length<r.length:=by
 cases r with
 | nil=>cases h
 | cons w r=>
  simp only [qv15]at h
  split at h
  ·cases hq:(qy1 k).find? (fun o=>o.1 == w.2.1)with
   | none=>rw [hq]at h;cases h
   | some q=>
    rw [hq]at h
    cases h
    have:=qj24 k q (List.mem_of_find?_eq_some hq);dsimp only;exact⟨ql5 _ (by omega) (by omega),hr.tail⟩
  ·cases h
theorem axis_wf (s:List UInt8):qp10 (ql1 s):=by
 unfold ql1
 split
 ·rename_i h
  have h1:axesL.idxOf s<axesL.length:=List.idxOf_lt_length_of_mem (by simpa using h);have h2:axesL.length=12:=rfl;exact ql5 _ (by omega) (by omega)
 ·exact ql5 0 (by omega) (by omega)
theorem head_wf {r:List Wd} {h:Int × List Wd} (hr:okR r) (he:qh8 r=some h):qp10 h.1∧okR h.2∧h.2.length≤r.length:=by
 unfold qh8 at he
 cases ht:takeW 1 [64] r with
 | some r1=>
  rw [ht]at he
  cases he
  have:=hr.take ht;exact⟨ql5 9 (by omega) (by omega),this.1,Ah this.2⟩
 | none=>
  rw [ht]at he
  cases r with
  | nil=>cases he;exact⟨ql5 1 (by omega) (by omega),hr,Ag _⟩
  | cons w r=>
   simp only []at he
   split at he
   ·split at he
    ·cases he
    ·cases ht2:takeW 1 [58,58] r with
     | none=>rw [ht2]at he;cases he
     | some r2=>
      rw [ht2]at he
      cases he
      have h1:=hr.tail;have h2:=h1.1.take ht2;exact⟨axis_wf _,h2.1,by have:=h1.2;have:=h2.2;dsimp only;omega⟩
   ·cases he
    exact⟨ql5 1 (by omega) (by omega),hr,Ag _⟩
theorem test_wf {r:List Wd} {t:(Int × List UInt8 × Bool) × List Wd} (hr:okR r) (he:qb3 r=some t):qp10 t.1.1∧t.1.2.1.length≤1000∧okR t.2∧t.2.length≤r.length:=by
 cases r with
 | nil=>cases he
 | cons w r=>
  have h1:=hr.tail;have hw:=hr.head;simp only [qb3]at he
  split at he
  ·cases he;exact⟨ql5 1 (by omega) (by omega),hw.2.2,h1.1,Ah h1.2⟩
  split at he
  ·cases he;exact⟨ql5 2 (by omega) (by omega),A6 _,h1.1,Ah h1.2⟩
  split at he
  ·obtain⟨r1,h2,h3⟩:=ql he;have g1:=h1.1.take h2
   have fin:∀ {k:Int} {b:Bool} {o:Option (List Wd)},qp10 k→o=takeW 1 [41] r1→o.map (fun r2=>(((k,([]:List UInt8),b),r2):(Int × List UInt8 × Bool) × List Wd))=some t→qp10 t.1.1∧t.1.2.1.length≤1000∧okR t.2∧t.2.length≤(w :: r).length:=by
    intro k b o hk ho hq
    cases o with
    | none=>cases hq
    | some r2=>
     cases hq
     have g2:=g1.1.take ho.symm;exact⟨hk,A6 _,g2.1,by have:=h1.2;have:=g1.2;have:=g2.2;dsimp only;omega⟩
   split at h3
   ·exact fin (ql5 5 (by omega) (by omega)) rfl h3
   split at h3
   ·exact fin (ql5 4 (by omega) (by omega)) rfl h3
   split at h3
   ·cases r1 with
    | nil=>cases h3
    | cons v r2=>
     simp only []at h3
     split at h3
     ·cases ht:takeW 1 [41] r2 with
      | none=>rw [ht]at h3;cases h3
      | some r3=>
       rw [ht]at h3
       cases h3
       have g2:=g1.1.tail;have g3:=g2.1.take ht;exact⟨ql5 6 (by omega) (by omega),g1.1.head.2.2,g3.1,by have:=h1.2;have:=g1.2;have:=g2.2;have:=g3.2;dsimp only;omega⟩
     ·exact fin (ql5 6 (by omega) (by omega)) rfl h3
   ·exact fin (ql5 3 (by omega) (by omega)) rfl h3
  ·cases he
structure WF (n:Nat):Prop where
 bin:∀ {k r x r'},okR r→ql2 n k r=some (x,r')→wfE x∧okR r'∧r'.length≤r.length
 loop:∀ {k e r x r'},okR r→wfE e→qy3 n k e r=some (x,r')→wfE x∧okR r'∧r'.length≤r.length
 signed:∀ {r x r'},okR r→qe3 n r=some (x,r')→wfE x∧okR r'∧r'.length≤r.length
 union:∀ {r x r'},okR r→qe4 n r=some (x,r')→wfE x∧okR r'∧r'.length≤r.length
 uloop:∀ {e r x r'},okR r→wfE e→qq3 n e r=some (x,r')→wfE x∧okR r'∧r'.length≤r.length
 path:∀ {r x r'},okR r→qm4 n r=some (x,r')→wfE x∧okR r'∧r'.length≤r.length
 more:∀ {acc r x r'},okR r→wfS acc→acc.length+2*r.length≤2100→qd2 n acc r=some (x,r')→wfS x∧x.length≤2100∧okR r'∧r'.length≤r.length
 loc:∀ {r x r'},okR r→qk18 n r=some (x,r')→wfE x∧okR r'∧r'.length≤r.length
 filter:∀ {r x r'},okR r→qm3 n r=some (x,r')→wfE x∧okR r'∧r'.length≤r.length
 preds:∀ {acc r x r'},okR r→wfL acc→acc.length+2*r.length≤2100→qm1 n acc r=some (x,r')→wfL x∧x.length≤2100∧okR r'∧r'.length≤r.length
 prim:∀ {r x r'},okR r→qu3 n r=some (x,r')→wfE x∧okR r'∧r'.length≤r.length
 call:∀ {s r x r'},okR r→s.length≤1000→qw8 n s r=some (x,r')→wfE x∧okR r'∧r'.length≤r.length
 args:∀ {acc r x r'},okR r→wfL acc→acc.length+2*r.length≤2100→qk5 n acc r=some (x,r')→wfL x∧x.length≤2100∧okR r'∧r'.length≤r.length
 step:∀ {r x r'},okR r→qc2 n r=some (x,r')→wfX x∧okR r'∧r'.length≤r.length
theorem all_wf:∀ n,WF n
 | 0=>⟨fun _ h=>(by cases h),fun _ _ h=>(by cases h),fun _ h=>(by cases h),fun _ h=>(by cases h),fun _ _ h=>(by cases h),fun _ h=>(by cases h),fun _ _ _ h=>(by cases h),fun _ h=>(by cases h),fun _ h=>(by cases h),fun _ _ _ h=>(by cases h),fun _ h=>(by cases h),fun _ _ h=>(by cases h),fun _ _ _ h=>(by cases h),fun _ h=>(by cases h)⟩
 | n+1=>by
  have I:=all_wf n;refine⟨?_,?_,?_,?_,?_,?_,?_,?_,?_,?_,?_,?_,?_,?_⟩
  ·intro k r x r' hr h;simp only [ql2]at h
   split at h
   ·exact I.signed hr h
   ·obtain⟨y,h1,h2⟩:=ql h;have g1:=I.bin hr (show _=some (y.1,y.2)from h1);have g2:=I.loop g1.2.1 g1.1 h2;exact⟨g2.1,g2.2.1,by omega⟩
  ·intro k e r x r' hr he h;simp only [qy3]at h
   cases ho:qv15 k r with
   | none=>rw [ho]at h;cases h;exact⟨he,hr,Ag _⟩
   | some o=>
    rw [ho]at h;obtain⟨y,h1,h2⟩:=ql h;have g0:=op_wf hr ho;have g1:=I.bin g0.2.1 (show _=some (y.1,y.2)from h1);have g2:=I.loop g1.2.1 (qh23 g0.1 (by simp) (show wfL [e,y.1]from⟨he,g1.1,trivial⟩)) h2;exact⟨g2.1,g2.2.1,by omega⟩
  ·intro r x r' hr h;simp only [qe3]at h
   cases ht:takeW 5 [45] r with
   | none=>rw [ht]at h;exact I.union hr h
   | some r1=>
    rw [ht]at h;have g0:=hr.take ht;obtain⟨y,h1,h2⟩:=ql h;have g1:=I.signed g0.1 (show _=some (y.1,y.2)from h1)
    cases h2
    exact⟨qh23 (ql5 15 (by omega) (by omega)) (by simp) (show wfL [y.1]from⟨g1.1,trivial⟩),g1.2.1,by omega⟩
  ·intro r x r' hr h;simp only [qe4]at h;obtain⟨y,h1,h2⟩:=ql h;have g1:=I.path hr (show _=some (y.1,y.2)from h1);have g2:=I.uloop g1.2.1 g1.1 h2;exact⟨g2.1,g2.2.1,by omega⟩
  ·intro e r x r' hr he h;simp only [qq3]at h
   cases ht:takeW 5 [124] r with
   | none=>rw [ht]at h;cases h;exact⟨he,hr,Ag _⟩
   | some r1=>
    rw [ht]at h;have g0:=hr.take ht;obtain⟨y,h1,h2⟩:=ql h;have g1:=I.path g0.1 (show _=some (y.1,y.2)from h1);have g2:=I.uloop g1.2.1 (qh23 (ql5 14 (by omega) (by omega)) (by simp) (show wfL [e,y.1]from⟨he,g1.1,trivial⟩)) h2;exact⟨g2.1,g2.2.1,by omega⟩
  ·intro r x r' hr h;simp only [qm4]at h
   split at h
   ·obtain⟨y,h1,h2⟩:=ql h;have g1:=I.filter hr (show _=some (y.1,y.2)from h1)
    split at h2
    ·cases h2;exact g1
    ·obtain⟨z,h3,h4⟩:=ql h2;have g2:=I.more g1.2.1 (by trivial) (by have:=g1.2.1.1;simp only [AY];omega) (show _=some (z.1,z.2)from h3)
     cases h4
     exact⟨qe9 _ (by simp) (by omega) (show wfL [y.1]from⟨g1.1,trivial⟩) g2.1,g2.2.2.1,by omega⟩
   ·exact I.loc hr h
  ·intro acc r x r' hr ha hl h;simp only [qd2]at h
   cases ht:takeW 5 [47] r with
   | some r1=>
    rw [ht]at h;have g0:=hr.take ht;obtain⟨y,h1,h2⟩:=ql h;have g1:=I.step g0.1 (show _=some (y.1,y.2)from h1);have g2:=I.more g1.2.1 (qc15 ha (show wfS [y.1]from⟨g1.1,trivial⟩)) (by rw [Aq,Bi];omega) h2;exact⟨g2.1,g2.2.1,g2.2.2.1,by omega⟩
   | none=>
    rw [ht]at h;simp only []at h
    cases ht2:takeW 5 [47,47] r with
    | some r1=>
     rw [ht2]at h;have g0:=hr.take ht2;obtain⟨y,h1,h2⟩:=ql h;have g1:=I.step g0.1 (show _=some (y.1,y.2)from h1);have g2:=I.more g1.2.1 (qc15 ha (show wfS [anyT,y.1]from⟨wf_any,g1.1,trivial⟩)) (by rw [Aq];simp only [AE,AY];omega) h2;exact⟨g2.1,g2.2.1,g2.2.2.1,by omega⟩
    | none=>rw [ht2]at h;cases h;exact⟨ha,by omega,hr,Ag _⟩
  ·intro r x r' hr h;simp only [qk18]at h
   split at h
   ·obtain⟨z,h3,h4⟩:=ql h;have g2:=I.more hr (by trivial) (by have:=hr.1;simp only [AY];omega) (show _=some (z.1,z.2)from h3)
    cases h4
    exact⟨qe9 _ (by simp) (by omega) trivial g2.1,g2.2.2.1,by omega⟩
   ·cases ht:takeW 5 [47] r with
    | some r1=>
     rw [ht]at h;simp only []at h;have g0:=hr.take ht
     split at h
     ·cases h;exact⟨qe9 _ (by simp) (by simp) trivial trivial,g0.1,by omega⟩
     ·obtain⟨y,h1,h2⟩:=ql h;obtain⟨z,h3,h4⟩:=ql h2;have g1:=I.step g0.1 (show _=some (y.1,y.2)from h1);have g2:=I.more g1.2.1 (show wfS [y.1]from⟨g1.1,trivial⟩) (by have:=g1.2.1.1;simp only [AE,AY];omega) (show _=some (z.1,z.2)from h3)
      cases h4
      exact⟨qe9 _ (by simp) (by omega) trivial g2.1,g2.2.2.1,by omega⟩
    | none=>
     rw [ht]at h;simp only []at h;obtain⟨y,h1,h2⟩:=ql h;obtain⟨z,h3,h4⟩:=ql h2;have g1:=I.step hr (show _=some (y.1,y.2)from h1);have g2:=I.more g1.2.1 (show wfS [y.1]from⟨g1.1,trivial⟩) (by have:=g1.2.1.1;simp only [AE,AY];omega) (show _=some (z.1,z.2)from h3)
     cases h4
     exact⟨qe9 _ (by simp) (by omega) trivial g2.1,g2.2.2.1,by omega⟩
  ·intro r x r' hr h;simp only [qm3]at h;obtain⟨y,h1,h2⟩:=ql h;obtain⟨z,h3,h4⟩:=ql h2;have g1:=I.prim hr (show _=some (y.1,y.2)from h1);have g2:=I.preds g1.2.1 (by trivial) (by have:=g1.2.1.1;simp only [AY];omega) (show _=some (z.1,z.2)from h3)
   cases h4
   refine⟨?_,g2.2.2.1,by omega⟩
   split
   ·exact g1.1
   ·exact qh23 (ql5 17 (by omega) (by omega)) (by rw [AE];omega) ⟨g1.1,g2.1⟩
  ·intro acc r x r' hr ha hl h;simp only [qm1]at h
   cases ht:takeW 1 [91] r with
   | none=>rw [ht]at h;cases h;exact⟨ha,by omega,hr,Ag _⟩
   | some r1=>
    rw [ht]at h;simp only []at h;have g0:=hr.take ht;obtain⟨y,h1,h2⟩:=ql h;obtain⟨r3,h3,h4⟩:=ql h2;have g1:=I.bin g0.1 (show _=some (y.1,y.2)from h1);have g3:=g1.2.1.take h3;have g2:=I.preds g3.1 (qd15 ha (show wfL [y.1]from⟨g1.1,trivial⟩)) (by rw [Aq,Bi];omega) h4;exact⟨g2.1,g2.2.1,g2.2.2.1,by omega⟩
  ·intro r x r' hr h
   cases r with
   | nil=>cases h
   | cons w r=>
    simp only [qu3]at h;have h0:=hr.tail;have hw:=hr.head;have z0:=ql5 0 (by omega) (by omega)
    split at h
    ·cases h;exact⟨by simp only [wfE];exact⟨ql5 21 (by omega) (by omega),z0,z0,qc5 (by have:=hw.2.2;omega),A6 _,A6 _,trivial,trivial⟩,h0.1,by omega⟩
    split at h
    ·cases h;exact⟨by simp only [wfE];exact⟨ql5 18 (by omega) (by omega),z0,z0,qc5 (by have:=hw.2.2;omega),A6 _,A6 _,trivial,trivial⟩,h0.1,by omega⟩
    split at h
    ·cases h;exact⟨by simp only [wfE];exact⟨ql5 19 (by omega) (by omega),hw.1,hw.2.1,A6 _,A6 _,A6 _,trivial,trivial⟩,h0.1,by omega⟩
    split at h
    ·have g:=I.call h0.1 hw.2.2 h;exact⟨g.1,g.2.1,by omega⟩
    ·obtain⟨y,h1,h2⟩:=ql h;obtain⟨r3,h3,h4⟩:=ql h2;have g1:=I.bin h0.1 (show _=some (y.1,y.2)from h1);have g3:=g1.2.1.take h3
     cases h4
     exact⟨g1.1,g3.1,by omega⟩
  ·intro s r x r' hr hs h;simp only [qw8]at h;obtain⟨r1,h1,h2⟩:=ql h;have g0:=hr.take h1;have z0:=ql5 0 (by omega) (by omega)
   have fin:∀ {l:List Ex},l.length≤3000→wfL l→wfE (.mk 20 s 0 0 false l []):=fun hl hw=>by
    simp only [wfE];exact⟨ql5 20 (by omega) (by omega),z0,z0,qc5 (by omega),qc5 hl,A6 _,hw,trivial⟩
   cases ht:takeW 1 [41] r1 with
   | some r2=>
    rw [ht]at h2
    cases h2
    have g2:=g0.1.take ht;exact⟨fin (by simp) trivial,g2.1,by omega⟩
   | none=>
    rw [ht]at h2;simp only []at h2;obtain⟨y,h3,h4⟩:=ql h2;obtain⟨z,h5,h6⟩:=ql h4;obtain⟨r4,h7,h8⟩:=ql h6;have g1:=I.bin g0.1 (show _=some (y.1,y.2)from h3);have g2:=I.args g1.2.1 (show wfL [y.1]from⟨g1.1,trivial⟩) (by have:=g1.2.1.1;simp only [AE,AY];omega) (show _=some (z.1,z.2)from h5);have g3:=g2.2.2.1.take h7
    cases h8
    exact⟨fin (by omega) g2.1,g3.1,by omega⟩
  ·intro acc r x r' hr ha hl h;simp only [qk5]at h
   cases ht:takeW 1 [44] r with
   | none=>rw [ht]at h;cases h;exact⟨ha,by omega,hr,Ag _⟩
   | some r1=>
    rw [ht]at h;simp only []at h;have g0:=hr.take ht;obtain⟨y,h1,h2⟩:=ql h;have g1:=I.bin g0.1 (show _=some (y.1,y.2)from h1);have g2:=I.args g1.2.1 (qd15 ha (show wfL [y.1]from⟨g1.1,trivial⟩)) (by rw [Aq,Bi];omega) h2;exact⟨g2.1,g2.2.1,g2.2.2.1,by omega⟩
  ·intro r x r' hr h;simp only [qc2]at h
   have st:∀ {a:Int},qp10 a→wfX (.mk a 3 [] false []):=fun ha=>by
    simp only [wfX];exact⟨ha,ql5 3 (by omega) (by omega),A6 _,A6 _,trivial⟩
   cases ht:takeW 1 [46] r with
   | some r1=>rw [ht]at h;cases h;have g:=hr.take ht;exact⟨st (ql5 10 (by omega) (by omega)),g.1,by omega⟩
   | none=>
    rw [ht]at h;simp only []at h
    cases ht2:takeW 1 [46,46] r with
    | some r1=>rw [ht2]at h;cases h;have g:=hr.take ht2;exact⟨st (ql5 3 (by omega) (by omega)),g.1,by omega⟩
    | none=>
     rw [ht2]at h;simp only []at h;obtain⟨a,h1,h2⟩:=ql h;obtain⟨t,h3,h4⟩:=ql h2;obtain⟨y,h5,h6⟩:=ql h4;have g1:=head_wf hr h1;have g2:=test_wf g1.2.1 h3;have g3:=I.preds g2.2.2.1 (by trivial) (by have:=g2.2.2.1.1;simp only [AY];omega) (show _=some (y.1,y.2)from h5)
     cases h6
     refine⟨?_,g3.2.2.1,by omega⟩;simp only [wfX];exact⟨g1.1,g2.1,qc5 (by omega),qc5 (by omega),g3.1⟩
theorem qs24 {l:List Wd} (hl:okR l) {e:Ex} (h:qk2 l=some e):wfE e:=by
 unfold qk2 at h
 cases hp:ql2 (80*l.length+60) 0 l with
 | none=>rw [hp]at h;cases h
 | some x=>
  obtain⟨x,r⟩:=x;rw [hp]at h
  cases r with
  | cons _ _=>cases h
  | nil=>cases h;exact((all_wf _).bin hl hp).1
theorem qd22:wfE ex0:=by
 unfold ex0;simp only [wfE];exact⟨ql5 0 (by omega) (by omega),ql5 0 (by omega) (by omega),ql5 0 (by omega) (by omega),A6 _,A6 _,A6 _,trivial,trivial⟩
end Go.Proofs.YtocdckniokhbbaaGreatDoor.Syn
namespace Go.Proofs.YtocdckniokhbbaaGreatDoor.Syn
open LexA DecE FigA FigC SpanA CharB
theorem qi20 (s:List UInt8):(qa4 s).length≤s.length:=qi12 _ s
theorem one_ok {s:List UInt8} (hs:s.length≤1000) {e:Bool} {w:Wd} {r:List UInt8} (h:qa15 s e=some (w,r)):okW w:=by
 have z0:=ql5 0 (by omega) (by omega);have plain:∀ {k:Int} {t:List UInt8},t.length≤1000→okW ((k,t,0,0):Wd):=fun ht=>⟨z0,z0,ht⟩
 cases s with
 | nil=>cases h
 | cons c t=>
  simp only [qa15]at h
  split at h
  ·unfold litW at h
   cases hq:qf10 c t with
   | none=>rw [hq]at h;cases h
   | some q=>
    obtain⟨a,r'⟩:=q;rw [hq]at h
    cases h
    have:=(qj7 c t a r hq).1;refine plain ?_;have h2:=congrArg List.length this;simp at h2 hs;omega
  split at h
  ·unfold numW at h
   split at h
   ·rename_i hc
    cases h
    have hl:=qw15 (c :: t);have hn:=nm_lit (qg5 (c :: t));have hi:=FigH.nm_i64 hn;refine⟨?_,?_,by show(qg5 (c :: t)).length≤1000;omega⟩
    ·show qp10 (qf8 (qg5 (c :: t))).1.1;rw [hc.2];exact z0
    ·show qp10 (qf8 (qg5 (c :: t))).1.2;unfold I64 at hi;exact ql5 _ (by omega) (by omega)
   ·cases h
  split at h
  ·rename_i m hm
   cases h
   have:=qm12 (qf6 hm).2;exact plain (by omega)
  split at h
  ·rename_i m hm
   cases h
   have:=qm12 (qf6 hm).2;exact plain (by omega)
  split at h
  ·cases h;exact plain (by simp)
  split at h
  ·unfold varW at h
   split at h
   ·cases h
    have:=qi20 t;simp at hs;exact plain (by omega)
   ·cases h
  ·have hr:=qi20 (c :: t);unfold qx9 at h;have hr1:(qa4 (c :: t)).length≤1000:=Nat.le_trans hr hs;clear hr;generalize qa4 (c :: t)=R at *;generalize qv12 R _=K at *
   split at h
   ·split at h
    ·split at h
     ·cases h;exact⟨z0,z0,hr1⟩
     ·cases h
    ·have h9:=congrArg Prod.fst (Az.inj h);dsimp only at h9;rw [← h9];exact⟨z0,z0,hr1⟩
   ·cases h
theorem qo21:∀ (n:Nat) (s:List UInt8) (acc:List Wd),s.length≤1000→(∀ w ∈ acc,okW w)→ ∀ w ∈ (qh5 n s acc).1,okW w
 | 0,s,acc,hs,ha=>by simpa [qh5]using ha
 | n+1,s,acc,hs,ha=>by
  simp only [qh5]
  split
  ·exact ha
  ·cases hq:qa15 s (qi2 acc)with
   | none=>intro w hw;exact absurd hw Bm
   | some q=>
    obtain⟨v,r⟩:=q;simp only []
    split
    ·intro w hw;exact absurd hw Bm
    ·refine qo21 n _ _ ?_ ?_
     ·have:=qp12 hq;have:=qt14 spB r;omega
     ·intro w hw
      rcases List.mem_append.1 hw with h | h
      ·exact ha w h
      ·rw [List.mem_singleton]at h;subst h;exact one_ok hs hq
theorem qg17:∀ (n:Nat) (s:List UInt8) (acc:List Wd),acc.length≤120→(qh5 n s acc).1.length≤120
 | 0,s,acc,h=>by simpa [qh5]using h
 | n+1,s,acc,h=>by
  simp only [qh5]
  split
  ·exact h
  ·split
   ·simp
   ·split
    ·simp
    ·exact qg17 n _ _ za3
theorem lexS_ok (s:List UInt8):okR (qn5 s).1:=by
 unfold qn5
 split
 ·exact⟨by simp,by simp⟩
 ·split
  ·have h1:=qg17 s.length (s.dropWhile spB) [] (by simp);have h2:=qt14 spB s;exact⟨by omega,qo21 s.length (s.dropWhile spB) [] (by omega) (by simp)⟩
  ·exact⟨by simp,by simp⟩
theorem qt9 (s:List UInt8):wfE (qv1 s).1:=by
 unfold qv1
 split
 ·split
  ·exact qd22
  ·cases h:qk2 (qn5 s).1 with
   | none=>exact qd22
   | some e=>exact qs24 (lexS_ok s) h
 ·exact qd22
end Go.Proofs.YtocdckniokhbbaaGreatDoor.Syn
