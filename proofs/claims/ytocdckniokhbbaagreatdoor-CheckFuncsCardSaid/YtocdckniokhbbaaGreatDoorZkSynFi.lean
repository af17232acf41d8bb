import Derived.Test.YtocdckniokhbbaaGreatDoorZkZz
import Derived.Test.YtocdckniokhbbaaGreatDoorZkFc
import Derived.Test.YtocdckniokhbbaaGreatDoorZkSynW
set_option linter.unusedVariables false
set_option linter.unusedSimpArgs false
open Go.Value renaming slice→Ad,int→Aa,string→Ac,bool→Ae,ownBlock→BP
open Nat renaming le_refl→Ag,le_of_lt→Ah
open List renaming length_append→Ar,length_cons→AK,length_nil→A8,length_singleton→Bj,getElem?_eq_getElem→AG
open Go.IntKind renaming i64→Ab
open Go.Region renaming wanted→Bz
open Go.Proofs.Tryz renaming prog→Aj,underlying28→AJ
open Go.Obj renaming cells→Af
open Go.RowKit.Below renaming refl→Ao
open Option renaming bind_some→AH,some→Ay
open Array renaming getElem?_eq_some_iff→An
open Bool renaming false_eq_true→AS
set_option maxHeartbeats 8000000
set_option maxRecDepth 100000
namespace Go.Proofs.YtocdckniokhbbaaGreatDoor.Syn
open Go.RowKit Go.Shelf YtocdckniokhbbaaGreatDoorW.PrintWords YtocdckniokhbbaaGreatDoorW.PrintLast YtocdckniokhbbaaGreatDoorW.PrintMore CharB SpanA FigD LexA LexF
structure OwnE (B N:Nat) (W:World) (acc:List Ex) (v:Value) (F:Nat→Prop) (xs:List Value):Prop where
 row:W.ownsRow B 28 7 v acc.length xs
 rep:RepR F W acc xs
 bnd:∀ k,F k→N≤k∧k<W.heap.size
 out:∀ g,v.ownBlock=some g→¬ F g
theorem OwnE.nil (B N:Nat) (W:World):OwnE B N W [] (Ad none 0 0) (fun _=>False) []:=⟨World.ownsRow_nil _ _ _ _,RepR.nil _ _,fun _ h=>h.elim,fun _ _ h=>h⟩
theorem OwnE.below {B N:Nat} {W W':World} {acc:List Ex} {v:Value} {F:Nat→Prop} {xs:List Value} (h:OwnE B N W acc v F xs) (hb:Below W.heap.size W W'):OwnE B N W' acc v F xs:=
 ⟨qb4 h.row hb,h.rep.keeps (Keeps.of_below hb),fun k hk=>by have:=h.bnd k hk;have:=hb.size;omega,h.out⟩
theorem OwnE.fr {p B N:Nat} {W W':World} {acc:List Ex} {v:Value} {F:Nat→Prop} {xs:List Value} (h:OwnE B N W acc v F xs) (hB:p<B) (hN:p<N) (hf:Fr p W.heap.size W W'):OwnE B N W' acc v F xs:=by
 refine⟨⟨h.row.1,?_⟩,h.rep.keeps (Keeps.of_fr hf (Ag _) (fun k hk=>(h.bnd k hk).1) hN),fun k hk=>by have:=h.bnd k hk;have:=hf.1.size;omega,h.out⟩
 rcases h.row.2 with hn | ⟨g,cap,cur,rfl,hBg,hg,r⟩
 ·exact .inl hn
 ·exact .inr ⟨g,cap,cur,rfl,hBg,Fr.get hf hg (by omega),r⟩
theorem OwnE.drewN {B N:Nat} {W:World} {acc:List Ex} {v:Value} {F:Nat→Prop} {xs:List Value} (h:OwnE B N W acc v F xs) (m:Nat):OwnE B N (W.drewN m) acc v F xs:=
 ⟨h.row,h.rep.keeps (w:=W) (w':=W.drewN m) ⟨Ag _,fun _ _ _=>rfl⟩,h.bnd,h.out⟩
theorem OwnE.is {B N:Nat} {W:World} {acc:List Ex} {v:Value} {F:Nat→Prop} {xs:List Value} (h:OwnE B N W acc v F xs) (hB:N≤B):qi20 N W acc v:=by
 obtain⟨A,cap,rfl⟩:=ql3 h.row;refine⟨fun k=>F k∨(Value.slice A acc.length cap).ownBlock=some k,A,cap,xs,rfl,qm8 h.row,h.rep.mono fun k hk=> .inl hk,Row.own (fun g hg=> .inr hg) h.row,fun k hk=>?_⟩
 rcases hk with hk | hk
 ·exact h.bnd k hk
 ·have:=h.row.lt k hk;omega
theorem OwnE.app {B N:Nat} {W W':World} {acc:List Ex} {v v':Value} {F G:Nat→Prop} {xs:List Value} {m:List Ex} {news:List Value} (h:OwnE B N W acc v F xs) (hB:B≤W.heap.size) (hr:RepR G W m news) (hG:∀ k,G k→N≤k∧k<W.heap.size) (hGo:∀ g,v.ownBlock=some g→¬ G g) (hs:W.heap.size≤W'.heap.size)
  (ho:W'.ownsRow B 28 7 v' (acc.length+m.length) (xs ++ news)) (hg:W.grownBy W' v.ownBlock) (hv:∀ g,v'.ownBlock=some g→v.ownBlock=some g∨W.heap.size≤g):OwnE B N W' (acc ++ m) v' (fun k=>F k∨G k) (xs ++ news):=by
 refine⟨by rw [Ar];exact ho,(h.rep.keeps (Keeps.of_grown hg hs fun g e=>h.out g e)).mono (fun k hk=> .inl hk) |>.app ((hr.keeps (Keeps.of_grown hg hs fun g e=>hGo g e)).mono fun k hk=> .inr hk),fun k hk=>?_,fun g e hk=>?_⟩
 ·rcases hk with hk | hk
  ·have:=h.bnd k hk;omega
  ·have:=hG k hk;omega
 ·rcases hv g e with hv | hv
  ·rcases hk with hk | hk
   ·exact h.out g hv hk
   ·exact hGo g hv hk
  ·rcases hk with hk | hk
   ·have:=h.bnd g hk;omega
   ·have:=hG g hk;omega
theorem qf24:(Tryz.prog.info? 28).map (fun i=>(i.zero,i.size,i.bytes))=some (some (.agg #[Aa Ab 0,Ac ⟨#[]⟩,Aa Ab 0,Aa Ab 0,Ae false,Ad none 0 0,Ad none 0 0]),7,96):=by kernel_rfl
structure OwnS (B N:Nat) (W:World) (acc:List St) (v:Value) (F:Nat→Prop) (xs:List Value):Prop where
 row:W.ownsRow B 73 5 v acc.length xs
 rep:RepT F W acc xs
 bnd:∀ k,F k→N≤k∧k<W.heap.size
 out:∀ g,v.ownBlock=some g→¬ F g
theorem OwnS.nil (B N:Nat) (W:World):OwnS B N W [] (Ad none 0 0) (fun _=>False) []:=⟨World.ownsRow_nil _ _ _ _,RepT.nil _ _,fun _ h=>h.elim,fun _ _ h=>h⟩
theorem OwnS.below {B N:Nat} {W W':World} {acc:List St} {v:Value} {F:Nat→Prop} {xs:List Value} (h:OwnS B N W acc v F xs) (hb:Below W.heap.size W W'):OwnS B N W' acc v F xs:=
 ⟨qb4 h.row hb,h.rep.keeps (Keeps.of_below hb),fun k hk=>by have:=h.bnd k hk;have:=hb.size;omega,h.out⟩
theorem OwnS.fr {p B N:Nat} {W W':World} {acc:List St} {v:Value} {F:Nat→Prop} {xs:List Value} (h:OwnS B N W acc v F xs) (hB:p<B) (hN:p<N) (hf:Fr p W.heap.size W W'):OwnS B N W' acc v F xs:=by
 refine⟨⟨h.row.1,?_⟩,h.rep.keeps (Keeps.of_fr hf (Ag _) (fun k hk=>(h.bnd k hk).1) hN),fun k hk=>by have:=h.bnd k hk;have:=hf.1.size;omega,h.out⟩
 rcases h.row.2 with hn | ⟨g,cap,cur,rfl,hBg,hg,r⟩
 ·exact .inl hn
 ·exact .inr ⟨g,cap,cur,rfl,hBg,Fr.get hf hg (by omega),r⟩
theorem OwnS.drewN {B N:Nat} {W:World} {acc:List St} {v:Value} {F:Nat→Prop} {xs:List Value} (h:OwnS B N W acc v F xs) (m:Nat):OwnS B N (W.drewN m) acc v F xs:=
 ⟨h.row,h.rep.keeps (w:=W) (w':=W.drewN m) ⟨Ag _,fun _ _ _=>rfl⟩,h.bnd,h.out⟩
theorem OwnS.is {B N:Nat} {W:World} {acc:List St} {v:Value} {F:Nat→Prop} {xs:List Value} (h:OwnS B N W acc v F xs) (hB:N≤B):isSs N W acc v:=by
 obtain⟨A,cap,rfl⟩:=ql3 h.row;refine⟨fun k=>F k∨(Value.slice A acc.length cap).ownBlock=some k,A,cap,xs,rfl,qm8 h.row,h.rep.mono fun k hk=> .inl hk,Row.own (fun g hg=> .inr hg) h.row,fun k hk=>?_⟩
 rcases hk with hk | hk
 ·exact h.bnd k hk
 ·have:=h.row.lt k hk;omega
theorem OwnS.app {B N:Nat} {W W':World} {acc:List St} {v v':Value} {F G:Nat→Prop} {xs:List Value} {m:List St} {news:List Value} (h:OwnS B N W acc v F xs) (hB:B≤W.heap.size) (hr:RepT G W m news) (hG:∀ k,G k→N≤k∧k<W.heap.size) (hGo:∀ g,v.ownBlock=some g→¬ G g) (hs:W.heap.size≤W'.heap.size)
  (ho:W'.ownsRow B 73 5 v' (acc.length+m.length) (xs ++ news)) (hg:W.grownBy W' v.ownBlock) (hv:∀ g,v'.ownBlock=some g→v.ownBlock=some g∨W.heap.size≤g):OwnS B N W' (acc ++ m) v' (fun k=>F k∨G k) (xs ++ news):=by
 refine⟨by rw [Ar];exact ho,(h.rep.keeps (Keeps.of_grown hg hs fun g e=>h.out g e)).mono (fun k hk=> .inl hk) |>.app ((hr.keeps (Keeps.of_grown hg hs fun g e=>hGo g e)).mono fun k hk=> .inr hk),fun k hk=>?_,fun g e hk=>?_⟩
 ·rcases hk with hk | hk
  ·have:=h.bnd k hk;omega
  ·have:=hG k hk;omega
 ·rcases hv g e with hv | hv
  ·rcases hk with hk | hk
   ·exact h.out g hv hk
   ·exact hGo g hv hk
  ·rcases hk with hk | hk
   ·have:=h.bnd g hk;omega
   ·have:=hG g hk;omega
theorem infoS:(Tryz.prog.info? 73).map (fun i=>(i.zero,i.size,i.bytes))=some (some (.agg #[Aa Ab 0,Aa Ab 0,Ac ⟨#[]⟩,Ae false,Ad none 0 0]),5,64):=by kernel_rfl
end Go.Proofs.YtocdckniokhbbaaGreatDoor.Syn
namespace Go.Proofs.YtocdckniokhbbaaGreatDoor.Syn
open Go.RowKit Go.Shelf YtocdckniokhbbaaGreatDoorW.PrintWords YtocdckniokhbbaaGreatDoorW.PrintLast YtocdckniokhbbaaGreatDoorW.PrintMore CharB SpanA FigD LexA LexF
section
variable {P:Program} (w:World)
theorem qd8 (base:Nat) (t ty e:TypeId) (i:TypeInfo) (z:Value) (bytes:Nat) (ht:P.underlying t=some (.slice e)) (hi:P.info? e=some i) (hz:i.zero=some z) (hby:i.bytes=bytes)
  (v:Value) (n:Nat) (xs:List Value) (hown:w.ownsRow base e i.size v n xs) (a:Addr) (m c:Nat) (hm:0<m) (news:List Value) (hl:news.length=m*i.size) (hnews:∀ j u,news[j]?=some u→w.cell? (a.add j)=some u) (h1:∀ u ∈ news,u.oneCell'=true)
  (h63:n+m≤maxLen) (hbytes:(n+m)*bytes≤140737488355328) (v':Value) (w':World) (hr:(Builtin.append_ #[t,t] ty #[v,Ad (some a) m c]).run P w= .ok v' w') :
  ∀ g,v'.ownBlock=some g→v.ownBlock=some g∨w.heap.size≤g:=by
 subst hby
 have hml:n+m≤9223372036854775807:=by simp only [maxLen]at h63;omega
 intro g hg
 rcases hown.2 with ⟨rfl,rfl⟩ | ⟨b,cap,cur,rfl,_,hb,hnc,_,hcs,_⟩
 ·have:=run_append_nil (P:=P) w t ty e i z ht hi hz a m c news hl hnews hm (by omega) (by rw [Nat.zero_add]at hbytes;omega);rw [this]at hr
  cases hr
  right;have:w.heap.size=g:=by simpa [BP]using hg
  omega
 ·by_cases hroom:n+m≤cap
  ·have:=run_append_room (P:=P) w t ty e i ht hi b n cap cur hb a m c news hl hnews h1 hroom (by rw [hl,hcs,← Nat.add_mul];exact Nat.mul_le_mul_right _ hroom);rw [this]at hr
   cases hr
   exact .inl hg
  ·have:=run_append_grow (P:=P) w t ty e i z ht hi hz ⟨b,0,none⟩ n cap xs hown.1 (hown.cells (g:=b) rfl) a m c news hl hnews (by omega) (by omega) (growslice_fits (by omega) hbytes);rw [this]at hr
   cases hr
   right;have:w.heap.size=g:=by simpa [BP]using hg
   omega
theorem qo2 {ops:Array Oper} {rest:List Oper} {o:Oper} {a:Act} {Q:Exit→Act→World→Prop} (hgd:o.guard=none) (s x:Operand) (t:TypeId)
  (ho:o.op= .call {callee:= .builtin .append,args:= #[s,x],argTypes:= #[t,t]})
  (base:Nat) (e:TypeId) (i:TypeInfo) (z:Value) (size bytes:Nat) (ht:P.underlying t=some (.slice e)) (hi:P.info? e=some i) (hz:i.zero=some z)
  (hsize:i.size=size) (hby:i.bytes=bytes) (hzs:z.cells.size=size) (hsz:0<size)
  (v:Value) (n:Nat) (xs:List Value) (hs:a.eval s=v) (hown:w.ownsRow base e size v n xs)
  (ad:Addr) (m c:Nat) (hm:0<m) (news:List Value) (hx:a.eval x= Ad (some ad) m c) (hl:news.length=m*size) (hnews:∀ j u,news[j]?=some u→w.cell? (ad.add j)=some u) (h1:∀ u ∈ news,u.oneCell'=true)
  (h63:n+m≤maxLen) (hbytes:(n+m)*bytes≤140737488355328) (hbase:base≤w.heap.size)
  (h:∀ v' w',w'.ownsRow base e size v' (n+m) (xs ++ news)→w.grownBy w' v.ownBlock→(∀ g,v'.ownBlock=some g→v.ownBlock=some g∨w.heap.size≤g)→wpList P ops Q rest (a.put o.dst v') w'):wpList P ops Q (o :: rest) a w:=by
 refine wpList_plain hgd fun K hK=>?_;obtain⟨v',w',hr,h2,h3,_⟩:=run_append_own (P:=P) w base t o.type e i z size bytes ht hi hz hsize hby hzs hsz v n xs hown ad m c news hl hnews h1 h63 hbytes hbase;have h4:=qd8 (P:=P) w base t o.type e i z bytes ht hi hz hby v n xs (by rw [hsize];exact hown) ad m c hm news (by rw [hsize];exact hl) hnews h1 h63 hbytes v' w' hr;unfold Oper.wp execOp;simp only [ho,resolve,invoke,builtin,Sem.run_bind,Sem.run_pure,Result.andThen_ok,List.map_toArray,List.map_cons,List.map_nil,hs,hx,hr];exact hK _ _ (h v' w' h2 h3 h4)
theorem qb3 {ops:Array Oper} {o:Oper} {a:Act} {K:Act→World→Prop} {Q:Exit→Act→World→Prop} {E:Prop} (hgd:o.guard=none) (s x:Operand) (t:TypeId)
  (ho:o.op= .call {callee:= .builtin .append,args:= #[s,x],argTypes:= #[t,t]})
  (base:Nat) (e:TypeId) (i:TypeInfo) (z:Value) (size bytes:Nat) (ht:P.underlying t=some (.slice e)) (hi:P.info? e=some i) (hz:i.zero=some z)
  (hsize:i.size=size) (hby:i.bytes=bytes) (hzs:z.cells.size=size) (hsz:0<size)
  (v:Value) (n:Nat) (xs:List Value) (hs:a.eval s=v) (hown:w.ownsRow base e size v n xs)
  (ad:Addr) (m c:Nat) (hm:0<m) (news:List Value) (hx:a.eval x= Ad (some ad) m c) (hl:news.length=m*size) (hnews:∀ j u,news[j]?=some u→w.cell? (ad.add j)=some u) (h1:∀ u ∈ news,u.oneCell'=true)
  (h63:n+m≤maxLen) (hbytes:(n+m)*bytes≤140737488355328) (hbase:base≤w.heap.size)
  (hK:∀ v' w',w'.ownsRow base e size v' (n+m) (xs ++ news)→w.grownBy w' v.ownBlock→(∀ g,v'.ownBlock=some g→v.ownBlock=some g∨w.heap.size≤g)→K (a.put o.dst v') w') :
  if Bz o (yielded ops a.tmps)=true then Oper.wp P o a w K Q else E:=by
 have hw:Bz o (yielded ops a.tmps)=true:=by simp [Bz,hgd]
 rw [if_pos hw];obtain⟨v',w',hr,h2,h3,_⟩:=run_append_own (P:=P) w base t o.type e i z size bytes ht hi hz hsize hby hzs hsz v n xs hown ad m c news hl hnews h1 h63 hbytes hbase;have h4:=qd8 (P:=P) w base t o.type e i z bytes ht hi hz hby v n xs (by rw [hsize];exact hown) ad m c hm news (by rw [hsize];exact hl) hnews h1 h63 hbytes v' w' hr;unfold Oper.wp execOp;simp only [ho,resolve,invoke,builtin,Sem.run_bind,Sem.run_pure,Result.andThen_ok,List.map_toArray,List.map_cons,List.map_nil,hs,hx,hr];exact hK v' w' h2 h3 h4
end
mutual
theorem RepE.one' {F:Nat→Prop} {w:World}:∀ {e:Ex} {cs:List Value},RepE F w e cs→ ∀ u ∈ cs,u.oneCell'=true
 | .mk _ _ _ _ _ _ _,cs,h=>by
  simp only [RepE]at h;obtain⟨K,S,rfl,⟨A,c,xs,rfl,_⟩,⟨A',c',xs',rfl,_⟩⟩:=h;intro u hu;simp only [List.mem_cons,List.not_mem_nil,or_false]at hu
  rcases hu with rfl | rfl | rfl | rfl | rfl | rfl | rfl<;>rfl
end
theorem RepR.one' {F:Nat→Prop} {w:World}:∀ {l:List Ex} {xs:List Value},RepR F w l xs→ ∀ u ∈ xs,u.oneCell'=true
 | [],xs,h=>by simp only [RepR]at h;subst h;intro u hu;cases hu
 | e :: l,xs,h=>by
  simp only [RepR]at h;obtain⟨cs,ys,rfl,h2,h3⟩:=h;intro u hu
  rcases List.mem_append.1 hu with hu | hu
  ·exact h2.one' u hu
  ·exact RepR.one' h3 u hu
theorem qb13:∀ (n:Nat) {acc:List Ex} {r:List Wd} {l:List Ex} {r':List Wd},qv1 n acc r=some (l,r')→l.length+r'.length≤acc.length+r.length
 | 0,acc,r,l,r',h=>by cases h
 | n+1,acc,r,l,r',h=>by
  simp only [qv1]at h
  cases ht:takeW 1 [91] r with
  | none=>rw [ht]at h;cases h;exact Ag _
  | some r1=>
   rw [ht]at h;obtain⟨⟨e,r2⟩,h1,h2⟩:=qx h;obtain⟨r3,h3,h4⟩:=qx h2;have:=qb13 n h4;obtain⟨o,rfl,_⟩:=qg1 ht;obtain⟨c,h5,_⟩:=qg1 h3;obtain⟨u,h6,_⟩:=(qj3 n).bin (by omega) h1;have h5:r2=c :: r3:=h5;rw [h6,h5];simp only [Ar,AK,A8]at *;omega
end Go.Proofs.YtocdckniokhbbaaGreatDoor.Syn
namespace Go.Proofs.YtocdckniokhbbaaGreatDoor.Syn
open Go.RowKit Go.Shelf YtocdckniokhbbaaGreatDoorW.PrintWords YtocdckniokhbbaaGreatDoorW.PrintLast YtocdckniokhbbaaGreatDoorW.PrintMore CharB SpanA FigD LexA LexF
theorem qh16 (p:Nat) (A:Option Addr) (cap:Nat) (l r:List Wd) (n:Nat) (hn:80*r.length+20≤n) (w:World) (h:PB p A cap l r w)
  (hb:∀ m,m≤n→ ∀ r W,80*r.length+60≤m→PB p A cap l r W→Calls Aj 27 #[qv p] W (Ans p A cap l W (isE W.heap.size) (qk3 m 0 r))) :
  Calls Aj 209 #[qv p] w (Ans p A cap l w (qi20 w.heap.size) (qv1 n [] r)):=by
 have HW:=Aside0.mk h;have HP:=Aside0.mk h.lt;have Hb:=Aside0.mk hb;have hlen:r.length≤1000:=by obtain⟨u,hu⟩:=h.suf;have:=h.few;rw [hu,Ar]at this;omega
 obtain⟨R,hR⟩:∃ R,qv1 n [] r=R:=⟨_,rfl⟩;rw [hR];have HO0:=Aside0.mk (OwnE.nil w.heap.size w.heap.size w);have HP0:=Aside0.mk h;have HF0:=Aside0.mk (Fr.refl p w.heap.size w);have HL0:=Aside0.mk hR;have HI0:Aside0 (([]:List Ex).length+r.length≤1000∧80*r.length+20≤n∧n≤n):=⟨by simp only [A8];omega⟩;clear h hb hn hR hlen;unfold qv at *;go_enter Tryz.func209,Tryz.ntmps209;go_wp2_with fail
 go_loopg [3] n (fun kq v3 w'=>∃ acc r F xs,Aside0 (OwnE w.heap.size w.heap.size w' acc v3 F xs)∧Aside0 (PB p A cap l r w')∧Aside0 (Fr p w.heap.size w w')∧Aside0 (qv1 kq acc r=R)∧Aside0 (acc.length+r.length≤1000∧80*r.length+20≤kq∧kq≤n))
 case atStart=>exact⟨[],r,_,_,HO0,HP0,HF0,HL0,HI0⟩
 case round=>
  obtain⟨acc,r,F,xs,HO,HPr,HFr,HLq,HI⟩:=hrel;clear HO0 HP0 HF0 HL0 HI0;obtain⟨k1,rfl⟩:∃ k1,gk=k1+1:=⟨gk - 1,zan⟩;have hL:=HLq.out;simp only [qv1]at hL
  cases ht:takeW 1 [91] r with
  | none=>
   rw [ht]at hL;subst hL;have ht1:=qz1 p A cap l r 1 [91] _ HPr.out ht;clear ht;unfold qv at *;go_wp2_with fail
   refine ht1.mono ?_;rintro e w2 ⟨rfl,m,rfl⟩;clear ht1;go_wp2_with fail
   go_ret;exact⟨HFr.out.drewN m,_,rfl,(HO.out.drewN m).is (Ag _),HPr.out.drewN m⟩
  | some r1=>
   rw [ht]at hL;simp only []at hL;have ht1:=qh2 p A cap l r r1 1 [91] _ HPr.out ht;have hlr:r.length=r1.length+1:=by obtain⟨x0,h0,_⟩:=qg1 ht;rw [h0];rfl
   have hneed:80*r1.length+60≤k1:=by have:=HI.out;omega
   have hk1:k1≤n:=by have:=HI.out;omega
   have HL:=Aside0.mk hL;have HAcc:=Aside0.mk (show acc.length+r1.length+1≤1000 from zan);have HI1:=Aside0.mk (show acc.length+r1.length+1≤1000∧80*r1.length+60≤k1 from⟨HAcc.out,hneed⟩);clear ht hL hlr HLq;unfold qv at *;go_wp2_with fail
   refine ht1.mono ?_;rintro e w2 ⟨rfl,hP2,hf⟩;have HO2:=Aside0.mk (HO.out.fr HP.out HP.out hf);have HF2:=Aside0.mk (HFr.out.chain hf HFr.out.1.size (Ah HP.out));have hc:=Hb.out k1 hk1 r1 w2 hneed hP2;have HLen:=Aside0.mk (show ∀ x r3,qk3 k1 0 r1=some (x,r3)→r3.length<r1.length from fun x r3 hx=>zaz);clear ht1 hf hP2 HO HPr HFr hneed;generalize hq:qk3 k1 0 r1=q at hc HL
   cases q with
   | none=>
    have hRn:(none:Option (List Ex × List Wd))=R:=HL.out;subst hRn;clear HL hq HLen;go_wp2_with fail
    refine hc.mono ?_;rintro e w3 ⟨hf,hm⟩;have hm:e=qa2:=hm;subst hm;exact⟨rfl,HF2.out.chain hf HF2.out.1.size (Ah HP.out),rfl⟩
   | some xr2=>
    obtain⟨x,r2⟩:=xr2;have hlen2:=HLen.out x r2 hq;have HL2:=Aside0.mk hlen2;have hc:=Ans.some hc;clear hq HLen hlen2;obtain⟨i0,hi,hz0,hz1,hz2⟩:=info_parts qf24;go_wp2_with fail
    refine hc.mono ?_;rintro e w3 ⟨G,op,s,d,t,b,A1,n1,c1,A2,n2,c2,rfl,hR3,hG3,hP3,hf3⟩;have B4:=(Ao w3.heap.size w3).alloc (Ag _) (Af #[Aa Ab op,Ac s,Aa Ab d,Aa Ab t,Ae b,Ad A1 n1 c1,Ad A2 n2 c2] 28);have hO4:=(HO2.out.fr HP.out HP.out hf3).below B4;have hF4:=(HF2.out.chain hf3 HF2.out.1.size (Ah HP.out)).alloc (Ag _) (Ah HP.out) (Af #[Aa Ab op,Ac s,Aa Ab d,Aa Ab t,Ae b,Ad A1 n1 c1,Ad A2 n2 c2] 28);have hP4:=hP3.below B4;have hR4:=RepR.one (hR3.keeps (Keeps.of_below B4));have hB4:w.heap.size≤(w3.alloc (Af #[Aa Ab op,Ac s,Aa Ab d,Aa Ab t,Ae b,Ad A1 n1 c1,Ad A2 n2 c2] 28)).heap.size:=hF4.1.size;have hG4:∀ k,G k→w.heap.size≤k∧k<(w3.alloc (Af #[Aa Ab op,Ac s,Aa Ab d,Aa Ab t,Ae b,Ad A1 n1 c1,Ad A2 n2 c2] 28)).heap.size:=fun k hk=>by have:=hG3 k hk;have:=HF2.out.1.size;rw [qo];omega
    have hGo:∀ g,u3.ownBlock=some g→¬ G g:=fun g e hk=>by have:=hG3 g hk;have:=HO2.out.row.lt g e;omega
    have HO4:=Aside0.mk hO4;have HF4:=Aside0.mk hF4;have HP4:=Aside0.mk hP4;have HR4:=Aside0.mk hR4;have HG4:=Aside0.mk hG4;have HGo:=Aside0.mk hGo;have HB4:=Aside0.mk hB4;have hwn:w.heap.size≤w3.heap.size:=by have:=HF2.out.1.size;have:=hf3.1.size;omega
    clear hO4 hF4 hP4 hR4 hG4 hGo hB4 B4 hR3 hG3 hP3 hf3 hc;go_wp2_with (at_builtin;refine qo2 _ rfl _ _ 25 rfl w.heap.size 28 i0 (.agg #[Aa Ab 0,Ac ⟨#[]⟩,Aa Ab 0,Aa Ab 0,Ae false,Ad none 0 0,Ad none 0 0]) 7 96 Tryz.underlying25 hi hz0 hz1 hz2 rfl (by decide) _ _ _ rfl (HO4.out.row) ⟨w3.heap.size,0,none⟩ 1 1 (by omega) [Aa Ab op,Ac s,Aa Ab d,Aa Ab t,Ae b,Ad A1 n1 c1,Ad A2 n2 c2] rfl rfl ?c1 ?c2 ?c3 ?c4 ?c5 ?_)
    case c1=>exact qm7 w3 #[Aa Ab op,Ac s,Aa Ab d,Aa Ab t,Ae b,Ad A1 n1 c1,Ad A2 n2 c2] _
    case c2=>intro u hu;simp only [List.mem_cons,List.not_mem_nil,or_false]at hu;rcases hu with rfl | rfl | rfl | rfl | rfl | rfl | rfl<;>rfl
    case c3=>unfold maxLen;have:=HAcc.out;omega
    case c4=>have:=HAcc.out;omega
    case c5=>simp only [qo];omega
    intro v' w5 hown' hgrow hwhere;clear hi hz0 hz1 hz2 hwn;have HGs:=Aside0.mk (show(w3.alloc (Af #[Aa Ab op,Ac s,Aa Ab d,Aa Ab t,Ae b,Ad A1 n1 c1,Ad A2 n2 c2] 28)).heap.size≤w5.heap.size from hgrow.size);have HO5:=Aside0.mk (HO4.out.app HB4.out HR4.out HG4.out HGo.out HGs.out hown' hgrow (fun g e=>by rw [qo];exact hwhere g e));have HF5:=Aside0.mk (HF4.out.grown hgrow (Ag _) (Ah HP.out) (qz6 HO4.out.row));have hpb:=(hgrow.block p HP4.out.lt (fun e=>by have:=qz6 HO4.out.row p e.symm;have:=HP.out;omega)).trans HP4.out.blk;have HP5:=Aside0.mk (HW.out.move HF5.out hpb HP4.out.suf);clear hpb hown' hgrow hwhere HO4 HF4 HP4 HR4 HG4 HGo HB4 HGs HO2 HF2
    cases hc2:takeW 1 [93] r2 with
    | none=>
     have hRn:(none:Option (List Ex × List Wd))=R:=by have h5:=HL.out;simp only [AH]at h5;rw [hc2]at h5;exact h5
     subst hRn;have hm:=qd4 p A cap l r2 1 [93] _ HP5.out hc2;clear hc2 HL;unfold qv at *;go_wp2_with fail
     refine hm.mono ?_;rintro e w6 ⟨rfl,m,rfl⟩;exact⟨rfl,HF5.out.drewN m,rfl⟩
    | some r3=>
     have hL3:qv1 k1 (acc ++ [x]) r3=R:=by have h5:=HL.out;simp only [AH]at h5;rw [hc2]at h5;exact h5
     have hl3:r2.length=r3.length+1:=by obtain⟨x0,h0,_⟩:=qg1 hc2;rw [h0];rfl
     have HL3:=Aside0.mk hL3;have Hl3:=Aside0.mk hl3;have hm:=qx1 p A cap l r2 r3 1 [93] _ HP5.out hc2;clear hc2 HL hL3 hl3;unfold qv at *;go_wp2_with fail
     refine hm.mono ?_;rintro e w6 ⟨rfl,hP6,hf6⟩;have HO6:=Aside0.mk (HO5.out.fr HP.out HP.out hf6);have HF6:=Aside0.mk (HF5.out.chain hf6 HF5.out.1.size (Ah HP.out));have HP6:=Aside0.mk hP6;clear hm hf6 hP6 HO5 HF5 HP5;go_wp2_with fail
     go_roundg k1
     case measure=>omega
     case rel=>exact⟨acc ++ [x],r3,_,_,HO6,HP6,HF6,HL3,⟨by have:=HI1.out;have:=Hl3.out;have:=HL2.out;rw [Ar,Bj];omega⟩⟩
end Go.Proofs.YtocdckniokhbbaaGreatDoor.Syn
namespace Go.Proofs.YtocdckniokhbbaaGreatDoor.Syn
open Go.RowKit Go.Shelf YtocdckniokhbbaaGreatDoorW.PrintWords YtocdckniokhbbaaGreatDoorW.PrintLast YtocdckniokhbbaaGreatDoorW.PrintMore CharB SpanA FigD LexA LexF
theorem Ans.list {p:Nat} {A:Option Addr} {cap:Nat} {l:List Wd} {f:FuncId} {args:Array Value} {W:World} {x:List Ex} {r:List Wd} (h:Calls Aj f args W (Ans p A cap l W (qi20 W.heap.size) (Ay (x,r)))) :
  Calls Aj f args W fun e w'=>∃ G Al cl xs,e= .returned (Ad Al x.length cl)∧x.length≤cl∧RepR G w' x xs∧Row G w' Al xs∧(∀ k,G k→W.heap.size≤k∧k<w'.heap.size)∧PB p A cap l r w'∧Fr p W.heap.size W w':=
 h.mono fun e w' ⟨hf,v,he,hE,hP⟩=>by
  obtain⟨G,Al,cl,xs,rfl,h1,h2,h3,h4⟩:=hE;exact⟨G,Al,cl,xs,he,h1,h2,h3,h4,hP,hf⟩
theorem qo14 (p:Nat) (A:Option Addr) (cap:Nat) (l r:List Wd) (n:Nat) (w:World) (h:PB p A cap l r w)
  (hb:∀ W,PB p A cap l r W→Calls Aj 208 #[qv p] W (Ans p A cap l W (isE W.heap.size) (qh8 n r)))
  (hb2:∀ r1 W,r1.length≤r.length→PB p A cap l r1 W→Calls Aj 209 #[qv p] W (Ans p A cap l W (qi20 W.heap.size) (qv1 n [] r1)))
  (hlen:∀ x r1,qh8 n r=some (x,r1)→r1.length≤r.length) :
  Calls Aj 193 #[qv p] w (Ans p A cap l w (isE w.heap.size) (qj4 (n+1) r)):=by
 simp only [qj4];have HW:=Aside0.mk h;have hp:=h.lt;have HP:=Aside0.mk hp;have B1:=(Ao w.heap.size w).alloc (Ag _) (Af #[Aa Ab 0,Ac ⟨#[]⟩,Aa Ab 0,Aa Ab 0,Ae false,Ad none 0 0,Ad none 0 0] 28);have hP0:=h.below B1;have HS:=Aside0.mk (show(w.alloc (Af #[Aa Ab 0,Ac ⟨#[]⟩,Aa Ab 0,Aa Ab 0,Ae false,Ad none 0 0,Ad none 0 0] 28)).heap.size=w.heap.size+1 by simp);have HF:=Aside0.mk ((Fr.refl p w.heap.size w).alloc (Ag _) (Ah hp) (Af #[Aa Ab 0,Ac ⟨#[]⟩,Aa Ab 0,Aa Ab 0,Ae false,Ad none 0 0,Ad none 0 0] 28));have HN:=Aside0.mk (qr w (Af #[Aa Ab 0,Ac ⟨#[]⟩,Aa Ab 0,Aa Ab 0,Ae false,Ad none 0 0,Ad none 0 0] 28));have hc:=hb _ hP0;have HLen:=Aside0.mk hlen;have hrl:r.length≤1000:=by obtain⟨u,hu⟩:=h.suf;have:=h.few;rw [hu,Ar]at this;omega
 have HRl:=Aside0.mk hrl;clear h hp B1 hb hP0 hlen hrl;generalize hq:qh8 n r=q at hc ⊢
 cases q with
 | none=>
  clear hq HLen hb2;unfold qv at *;go_enter Tryz.func193,Tryz.ntmps193;go_wp2_with fail
  refine hc.mono ?_;rintro e w1 ⟨hf,hm⟩;have hm:e=qa2:=hm;subst hm;exact⟨rfl,Fr.chain HF.out hf zau (Ah HP.out),rfl⟩
 | some xr1=>
  obtain⟨x,r1⟩:=xr1;have hl1:=HLen.out x r1 hq;have hb3:=fun W=>hb2 r1 W hl1;have hc:=Ans.some hc;simp only [AH]
  try dsimp only
  have HLn:=Aside0.mk (show ∀ ps r2,qv1 n [] r1=some (ps,r2)→ps.length≤1000 from fun ps r2 hx=>by have:=qb13 n hx;have:=HRl.out;simp only [A8]at *;omega);clear hq HLen hl1 hb2;generalize hq:qv1 n [] r1=q at hb3 ⊢
  cases q with
  | none=>
   clear hq HLn;have Hb2:=Aside0.mk hb3;clear hb3;unfold qv at *;go_enter Tryz.func193,Tryz.ntmps193;go_wp2_with fail
   refine hc.mono ?_;rintro e w1 ⟨F,op,s,d,t,b,A1,n1,c1,A2,n2,c2,rfl,hR,hFl,hP1,hf⟩;have hsz1:=hf.1.size;have HF1:=Aside0.mk (Fr.chain HF.out hf zau (Ah HP.out));have HN1:=Aside0.mk (Fr.get hf HN.out zr);have HL1:=Aside0.mk (show w.heap.size<w1.heap.size from(An.1 HN1.out).1);have B2:=(Ao w1.heap.size w1).alloc (Ag _) (Af #[Aa Ab op,Ac s,Aa Ab d,Aa Ab t,Ae b,Ad A1 n1 c1,Ad A2 n2 c2] 28);have hP2:=hP1.below B2;have hR2:=hR.keeps (Keeps.of_below B2);have hc2:=Hb2.out _ hP2;have HF2:=Aside0.mk (HF1.out.alloc (Ag _) (Ah HP.out) (Af #[Aa Ab op,Ac s,Aa Ab d,Aa Ab t,Ae b,Ad A1 n1 c1,Ad A2 n2 c2] 28));have HN2:=Aside0.mk (qb HN1.out (Af #[Aa Ab op,Ac s,Aa Ab d,Aa Ab t,Ae b,Ad A1 n1 c1,Ad A2 n2 c2] 28));have HE2:=Aside0.mk (qr w1 (Af #[Aa Ab op,Ac s,Aa Ab d,Aa Ab t,Ae b,Ad A1 n1 c1,Ad A2 n2 c2] 28));have HR2:=Aside0.mk hR2;have HFl2:=Aside0.mk (show ∀ k,F k→w.heap.size<k∧k<w1.heap.size from fun k hk=>za9);clear hR hFl hP1 hf hsz1 B2 hP2 hR2 hc;go_wp2_with fail
   refine hc2.mono ?_;rintro e w2 ⟨hf,hm⟩;have hm:e=qa2:=hm;subst hm;exact⟨rfl,HF2.out.chain hf (by rw [qo];have:=HL1.out;omega) (Ah HP.out),rfl⟩
  | some psr=>
   obtain⟨ps,r2⟩:=psr;have hps:=HLn.out ps r2 hq;have Hb2:=Aside0.mk (show ∀ W,_→_ from fun W hW=>Ans.list (hb3 W hW));simp only [AH]
   try dsimp only
   clear hq HLn hb3
   cases ps with
   | nil=>
    clear hps;simp only [A8,List.isEmpty_nil,if_true]at Hb2 ⊢;unfold qv at *;go_enter Tryz.func193,Tryz.ntmps193;go_wp2_with fail
    refine hc.mono ?_;rintro e w1 ⟨F,op,s,d,t,b,A1,n1,c1,A2,n2,c2,rfl,hR,hFl,hP1,hf⟩;have hsz1:=hf.1.size;have HF1:=Aside0.mk (Fr.chain HF.out hf zau (Ah HP.out));have HN1:=Aside0.mk (Fr.get hf HN.out zr);have HL1:=Aside0.mk (show w.heap.size<w1.heap.size from(An.1 HN1.out).1);have B2:=(Ao w1.heap.size w1).alloc (Ag _) (Af #[Aa Ab op,Ac s,Aa Ab d,Aa Ab t,Ae b,Ad A1 n1 c1,Ad A2 n2 c2] 28);have hP2:=hP1.below B2;have hR2:=hR.keeps (Keeps.of_below B2);have hc2:=Hb2.out _ hP2;have HF2:=Aside0.mk (HF1.out.alloc (Ag _) (Ah HP.out) (Af #[Aa Ab op,Ac s,Aa Ab d,Aa Ab t,Ae b,Ad A1 n1 c1,Ad A2 n2 c2] 28));have HN2:=Aside0.mk (qb HN1.out (Af #[Aa Ab op,Ac s,Aa Ab d,Aa Ab t,Ae b,Ad A1 n1 c1,Ad A2 n2 c2] 28));have HE2:=Aside0.mk (qr w1 (Af #[Aa Ab op,Ac s,Aa Ab d,Aa Ab t,Ae b,Ad A1 n1 c1,Ad A2 n2 c2] 28));have HR2:=Aside0.mk hR2;have HFl2:=Aside0.mk (show ∀ k,F k→w.heap.size<k∧k<w1.heap.size from fun k hk=>za9);clear hR hFl hP1 hf hsz1 B2 hP2 hR2 hc;go_wp2_with fail
    refine hc2.mono ?_;rintro e w3 ⟨G,Al,cl,xs,rfl,_,_,_,_,hP3,hf3⟩;have HF3:=Aside0.mk (HF2.out.chain hf3 (by rw [qo];have:=HL1.out;omega) (Ah HP.out));have HN3:=Aside0.mk (Fr.get hf3 HN2.out zr);have HE3:=Aside0.mk (Fr.get hf3 HE2.out za8);have HR3:=Aside0.mk (RepE.keeps (Keeps.of_fr hf3 (Ag _) (fun k hk=>Ah (HFl2.out k hk).1) HP.out) HR2.out);have HFl3:=Aside0.mk (show ∀ k,F k→w.heap.size<k∧k<w3.heap.size from fun k hk=>by have:=HFl2.out k hk;have h5:=hf3.1.size;rw [qo]at h5;omega);have HP3:=Aside0.mk hP3;obtain⟨zc0,zc1,zc2,zc3,zc4,zc5,zc6,zf0,zf1,zf2,zf3,zf4,zf5,zf6⟩:=fd7 (HN3.out);obtain⟨yc0,yc1,yc2,yc3,yc4,yc5,yc6⟩:=fc7 (HE3.out);clear hc2 hP3 hf3;go_wp2_with fail
    have hnF:¬ F (w.heap.size):=fun hq=>by have:=(HFl3.out _ hq).1;omega
    have hnp:p≠w.heap.size:=by have:=HP.out;omega
    have hF6:=(Fr.set (Fr.set (Fr.set (Fr.set (Fr.set (Fr.set (Fr.set HF3.out (g:=w.heap.size) (.inr (Ag _)) (Ah HP.out) 0 (Aa Ab op)) (g:=w.heap.size) (.inr (Ag _)) (Ah HP.out) 1 (Ac s)) (g:=w.heap.size) (.inr (Ag _)) (Ah HP.out) 2 (Aa Ab d)) (g:=w.heap.size) (.inr (Ag _)) (Ah HP.out) 3 (Aa Ab t)) (g:=w.heap.size) (.inr (Ag _)) (Ah HP.out) 4 (Ae b)) (g:=w.heap.size) (.inr (Ag _)) (Ah HP.out) 5 (Ad A1 n1 c1)) (g:=w.heap.size) (.inr (Ag _)) (Ah HP.out) 6 (Ad A2 n2 c2));refine bodyPost_ret (results_cell_row rfl _ _ (w.heap.size) 28 #[Aa Ab op,Ac s,Aa Ab d,Aa Ab t,Ae b,Ad A1 n1 c1,Ad A2 n2 c2] (0,0) _ rfl (qk (cs':= #[Aa Ab op,Ac s,Aa Ab d,Aa Ab t,Ae b,Ad A1 n1 c1,Ad A2 n2 c2]) (qk (cs':= #[Aa Ab op,Ac s,Aa Ab d,Aa Ab t,Ae b,Ad A1 n1 c1,Ad none 0 0]) (qk (cs':= #[Aa Ab op,Ac s,Aa Ab d,Aa Ab t,Ae b,Ad none 0 0,Ad none 0 0]) (qk (cs':= #[Aa Ab op,Ac s,Aa Ab d,Aa Ab t,Ae false,Ad none 0 0,Ad none 0 0]) (qk (cs':= #[Aa Ab op,Ac s,Aa Ab d,Aa Ab 0,Ae false,Ad none 0 0,Ad none 0 0]) (qk (cs':= #[Aa Ab op,Ac s,Aa Ab 0,Aa Ab 0,Ae false,Ad none 0 0,Ad none 0 0]) (qk (cs':= #[Aa Ab op,Ac ⟨#[]⟩,Aa Ab 0,Aa Ab 0,Ae false,Ad none 0 0,Ad none 0 0]) HN3.out 0 (Aa Ab op) rfl) 1 (Ac s) rfl) 2 (Aa Ab d) rfl) 3 (Aa Ab t) rfl) 4 (Ae b) rfl) 5 (Ad A1 n1 c1) rfl) 6 (Ad A2 n2 c2) rfl) AJ rfl zm) rfl ?_;refine⟨hF6,_,rfl,⟨F,[Aa Ab op,Ac s,Aa Ab d,Aa Ab t,Ae b,Ad A1 n1 c1,Ad A2 n2 c2],rfl,?_,fun k hk=>⟨by have:=(HFl3.out k hk).1;omega,by simp only [qf1];exact(HFl3.out k hk).2⟩⟩,?_⟩
    ·exact(RepE.keeps (Keeps.of_set _ 6 (Ad A2 n2 c2) (hnF)) (RepE.keeps (Keeps.of_set _ 5 (Ad A1 n1 c1) (hnF)) (RepE.keeps (Keeps.of_set _ 4 (Ae b) (hnF)) (RepE.keeps (Keeps.of_set _ 3 (Aa Ab t) (hnF)) (RepE.keeps (Keeps.of_set _ 2 (Aa Ab d) (hnF)) (RepE.keeps (Keeps.of_set _ 1 (Ac s) (hnF)) (RepE.keeps (Keeps.of_set _ 0 (Aa Ab op) (hnF)) HR3.out)))))))
    ·refine HW.out.move hF6 ?_ HP3.out.suf;rw [PB.sets7 hnp];exact HP3.out.blk
   | cons p0 ps0=>
    obtain⟨ps,hpe⟩:∃ ps,p0 :: ps0=ps:=⟨_,rfl⟩;have hpos:0<ps.length:=by rw [← hpe];simp
    have hem:ps.isEmpty=false:=by rw [← hpe];rfl
    rw [hpe]at hps Hb2 ⊢;clear hpe;rw [hem];simp only [AS,if_false];have hl0:((ps.length:Int) == 0)=false:=by simp;intro h5;subst h5;simp at hpos
    have hl1:(ps.length == 0)=false:=by simp;intro h5;subst h5;simp at hpos
    clear hem;have HPos:=Aside0.mk hpos;have HAcc:=Aside0.mk hps;clear hpos hps;obtain⟨i0,hi,hz0,hz1,hz2⟩:=info_parts qf24;unfold qv at *;go_enter Tryz.func193,Tryz.ntmps193;go_wp2_with fail
    refine hc.mono ?_;rintro e w1 ⟨F,op,s,d,t,b,A1,n1,c1,A2,n2,c2,rfl,hR,hFl,hP1,hf⟩;have hsz1:=hf.1.size;have HF1:=Aside0.mk (Fr.chain HF.out hf zau (Ah HP.out));have HN1:=Aside0.mk (Fr.get hf HN.out zr);have HL1:=Aside0.mk (show w.heap.size<w1.heap.size from(An.1 HN1.out).1);have B2:=(Ao w1.heap.size w1).alloc (Ag _) (Af #[Aa Ab op,Ac s,Aa Ab d,Aa Ab t,Ae b,Ad A1 n1 c1,Ad A2 n2 c2] 28);have hP2:=hP1.below B2;have hR2:=hR.keeps (Keeps.of_below B2);have hc2:=Hb2.out _ hP2;have HF2:=Aside0.mk (HF1.out.alloc (Ag _) (Ah HP.out) (Af #[Aa Ab op,Ac s,Aa Ab d,Aa Ab t,Ae b,Ad A1 n1 c1,Ad A2 n2 c2] 28));have HN2:=Aside0.mk (qb HN1.out (Af #[Aa Ab op,Ac s,Aa Ab d,Aa Ab t,Ae b,Ad A1 n1 c1,Ad A2 n2 c2] 28));have HE2:=Aside0.mk (qr w1 (Af #[Aa Ab op,Ac s,Aa Ab d,Aa Ab t,Ae b,Ad A1 n1 c1,Ad A2 n2 c2] 28));have HR2:=Aside0.mk hR2;have HFl2:=Aside0.mk (show ∀ k,F k→w.heap.size<k∧k<w1.heap.size from fun k hk=>za9);clear hR hFl hP1 hf hsz1 B2 hP2 hR2 hc;go_wp2_with fail
    refine hc2.mono ?_;rintro e w3 ⟨G,Al,cl,xs,rfl,hcl,hRl,hRow,hGl,hP3,hf3⟩;have hF3:=HF2.out.chain hf3 (by rw [qo];have:=HL1.out;omega) (Ah HP.out);have hN3:=Fr.get hf3 HN2.out zr;have hE3:=Fr.get hf3 HE2.out za8;have hR3:=RepE.keeps (Keeps.of_fr hf3 (Ag _) (fun k hk=>Ah (HFl2.out k hk).1) HP.out) HR2.out
    obtain⟨a,rfl⟩:∃ a,Al=some a:=by
     have h7:=hRl.len;have h8:=HPos.out;obtain⟨a,ha,_⟩:=hRow 0 (xs[0]'(by omega)) (AG _);exact⟨a,ha⟩
    obtain⟨yc0,yc1,yc2,yc3,yc4,yc5,yc6⟩:=fc7 (hE3);have hs3:=hf3.1.size;rw [qo]at hs3;have B4:=(Ao w3.heap.size w3).alloc (Ag _) (Af #[Aa Ab op,Ac s,Aa Ab d,Aa Ab t,Ae b,Ad A1 n1 c1,Ad A2 n2 c2] 28);have hown0:World.ownsRow (w3.alloc (Af #[Aa Ab op,Ac s,Aa Ab d,Aa Ab t,Ae b,Ad A1 n1 c1,Ad A2 n2 c2] 28)) w3.heap.size 28 7 (Ad (some ⟨w3.heap.size,0,none⟩) 1 1) 1 [Aa Ab op,Ac s,Aa Ab d,Aa Ab t,Ae b,Ad A1 n1 c1,Ad A2 n2 c2]:=World.ownsRow_lit w3 #[Aa Ab op,Ac s,Aa Ab d,Aa Ab t,Ae b,Ad A1 n1 c1,Ad A2 n2 c2] 1 (Ag _) (by unfold maxLen;omega) rfl;have HO4:Aside0 (OwnE w3.heap.size (w.heap.size+1) (w3.alloc (Af #[Aa Ab op,Ac s,Aa Ab d,Aa Ab t,Ae b,Ad A1 n1 c1,Ad A2 n2 c2] 28)) [x] (Ad (some ⟨w3.heap.size,0,none⟩) 1 1) F [Aa Ab op,Ac s,Aa Ab d,Aa Ab t,Ae b,Ad A1 n1 c1,Ad A2 n2 c2]):=⟨⟨hown0,RepR.one (hR3.keeps (Keeps.of_below B4)),fun k hk=>by have:=HFl2.out k hk;rw [qo];omega,fun g e hk=>by have:=HFl2.out g hk;have e2:w3.heap.size=g:=(by simpa [BP]using e);omega⟩⟩;have hRl4:=hRl.keeps (Keeps.of_below B4);have hRow4:=hRow.keeps (Keeps.of_below B4);have hnews:∀ j u,xs[j]?=some u→(w3.alloc (Af #[Aa Ab op,Ac s,Aa Ab d,Aa Ab t,Ae b,Ad A1 n1 c1,Ad A2 n2 c2] 28)).cell? (a.add j)=some u:=fun j u hu=>by obtain⟨a',ha,_,_,hc⟩:=hRow4 j u hu;cases ha;exact hc
    have HF4:=Aside0.mk (hF3.alloc (Ag _) (Ah HP.out) (Af #[Aa Ab op,Ac s,Aa Ab d,Aa Ab t,Ae b,Ad A1 n1 c1,Ad A2 n2 c2] 28));have HN4:=Aside0.mk (qb hN3 (Af #[Aa Ab op,Ac s,Aa Ab d,Aa Ab t,Ae b,Ad A1 n1 c1,Ad A2 n2 c2] 28));have HP4:=Aside0.mk (hP3.below B4);have HG4:=Aside0.mk (show ∀ k,G k→w1.heap.size+1≤k∧k<w3.heap.size from fun k hk=>by have:=hGl k hk;rw [qo]at this;omega);have HS3:=Aside0.mk (show w.heap.size<w1.heap.size∧w1.heap.size<w3.heap.size from⟨HL1.out,by omega⟩);have HRl4:=Aside0.mk hRl4;have HNews:=Aside0.mk hnews;have H1c:=Aside0.mk hRl.one';have HXl:=Aside0.mk hRl.len;clear hF3 hN3 hE3 hR3 hs3 B4 hown0 hRl hRow hRl4 hRow4 hnews hGl hP3 hf3 hcl hc2;go_wp2_with (at_builtin;refine qo2 _ rfl _ _ 25 rfl w3.heap.size 28 i0 (.agg #[Aa Ab 0,Ac ⟨#[]⟩,Aa Ab 0,Aa Ab 0,Ae false,Ad none 0 0,Ad none 0 0]) 7 96 Tryz.underlying25 hi hz0 hz1 hz2 rfl (by decide) _ _ _ rfl (HO4.out.row) a ps.length cl HPos.out xs rfl HXl.out HNews.out H1c.out ?c3 ?c4 ?c5 ?_)
    case c3=>unfold maxLen;have:=HAcc.out;simp only [Bj];omega
    case c4=>have:=HAcc.out;simp only [Bj];omega
    case c5=>simp only [qo];omega
    intro v' w5 hown' hgrow hwhere;clear hi hz0 hz1 hz2;have hO5:=HO4.out.app zbd HRl4.out (fun k hk=>by have:=HG4.out k hk;have:=HS3.out;rw [qo];omega) (fun g e hk=>by have:=HG4.out g hk;have e2:w3.heap.size=g:=(by simpa [BP]using e);omega) hgrow.size hown' hgrow (fun g e=>by rw [qo];exact hwhere g e);obtain⟨A5,c5,rfl⟩:=ql3 hown';have hsz5:=hgrow.size;rw [qo]at hsz5;have HF5:=Aside0.mk (HF4.out.grown hgrow (Ag _) (Ah HP.out) (fun g e=>by have e2:w3.heap.size=g:=(by simpa [BP]using e);have:=HS3.out;omega));have hgb:∀ bb,bb<w3.heap.size→w5.heap[bb]?=(w3.alloc (Af #[Aa Ab op,Ac s,Aa Ab d,Aa Ab t,Ae b,Ad A1 n1 c1,Ad A2 n2 c2] 28)).heap[bb]? :=fun bb hb=>hgrow.block bb zbd (fun e=>by have e2:w3.heap.size=bb:=(by simpa [BP]using e.symm);omega);have hps3:p<w3.heap.size:=by have:=HP.out;have:=HS3.out;omega
    have hpb:=(hgb p hps3).trans HP4.out.blk;have HP5:=Aside0.mk (HW.out.move HF5.out hpb HP4.out.suf);have hN5:=(hgb w.heap.size (by have:=HS3.out;omega)).trans HN4.out;have hcap:=qm8 hown';have HR5:=Aside0.mk (show RepE (fun k=>(F k∨G k)∨(Value.slice A5 (1+ps.length) c5).ownBlock=some k) w5 (mkW 17 (x :: ps)) [Aa Ab 17,Ac ⟨#[]⟩,Aa Ab 0,Aa Ab 0,Ae false,Ad A5 (1+ps.length) c5,Ad none 0 0]from RepE.mk' 17 [] 0 0 false (by rw [AK];omega) hcap (hO5.rep.mono fun k hk=> .inl hk) (Row.own (fun g hg=> .inr hg) hown') rfl (Ag _) (RepT.nil _ _) (Row.nil _ _ _));have HFl5:=Aside0.mk (show ∀ k,((F k∨G k)∨(Value.slice A5 (1+ps.length) c5).ownBlock=some k)→w.heap.size<k∧k<w5.heap.size from fun k hk=>by have:=HS3.out;rcases hk with (hk | hk) | hk;(have:=HFl2.out k hk;omega);(have:=HG4.out k hk;omega);(have:=hO5.row.lt k hk;omega));obtain⟨zc0,zc1,zc2,zc3,zc4,zc5,zc6,zf0,zf1,zf2,zf3,zf4,zf5,zf6⟩:=fd7 (hN5);have HN5:=Aside0.mk hN5;clear hO5 hown' hgrow hwhere hsz5 hgb hps3 hpb hN5 hcap;go_wp2_with fail
    have hnF:¬ (fun k=>(F k∨G k)∨(Value.slice A5 (1+ps.length) c5).ownBlock=some k) (w.heap.size):=fun hq=>by have:=(HFl5.out _ hq).1;omega
    have hnp:p≠w.heap.size:=by have:=HP.out;omega
    have hF6:=(Fr.set (Fr.set (Fr.set (Fr.set (Fr.set (Fr.set (Fr.set HF5.out (g:=w.heap.size) (.inr (Ag _)) (Ah HP.out) 0 (Aa Ab 17)) (g:=w.heap.size) (.inr (Ag _)) (Ah HP.out) 1 (Ac ⟨#[]⟩)) (g:=w.heap.size) (.inr (Ag _)) (Ah HP.out) 2 (Aa Ab 0)) (g:=w.heap.size) (.inr (Ag _)) (Ah HP.out) 3 (Aa Ab 0)) (g:=w.heap.size) (.inr (Ag _)) (Ah HP.out) 4 (Ae false)) (g:=w.heap.size) (.inr (Ag _)) (Ah HP.out) 5 (Ad A5 (1+ps.length) c5)) (g:=w.heap.size) (.inr (Ag _)) (Ah HP.out) 6 (Ad none 0 0));refine bodyPost_ret (results_cell_row rfl _ _ (w.heap.size) 28 #[Aa Ab 17,Ac ⟨#[]⟩,Aa Ab 0,Aa Ab 0,Ae false,Ad A5 (1+ps.length) c5,Ad none 0 0] (0,0) _ rfl (qk (cs':= #[Aa Ab 17,Ac ⟨#[]⟩,Aa Ab 0,Aa Ab 0,Ae false,Ad A5 (1+ps.length) c5,Ad none 0 0]) (qk (cs':= #[Aa Ab 17,Ac ⟨#[]⟩,Aa Ab 0,Aa Ab 0,Ae false,Ad A5 (1+ps.length) c5,Ad none 0 0]) (qk (cs':= #[Aa Ab 17,Ac ⟨#[]⟩,Aa Ab 0,Aa Ab 0,Ae false,Ad none 0 0,Ad none 0 0]) (qk (cs':= #[Aa Ab 17,Ac ⟨#[]⟩,Aa Ab 0,Aa Ab 0,Ae false,Ad none 0 0,Ad none 0 0]) (qk (cs':= #[Aa Ab 17,Ac ⟨#[]⟩,Aa Ab 0,Aa Ab 0,Ae false,Ad none 0 0,Ad none 0 0]) (qk (cs':= #[Aa Ab 17,Ac ⟨#[]⟩,Aa Ab 0,Aa Ab 0,Ae false,Ad none 0 0,Ad none 0 0]) (qk (cs':= #[Aa Ab 17,Ac ⟨#[]⟩,Aa Ab 0,Aa Ab 0,Ae false,Ad none 0 0,Ad none 0 0]) HN5.out 0 (Aa Ab 17) rfl) 1 (Ac ⟨#[]⟩) rfl) 2 (Aa Ab 0) rfl) 3 (Aa Ab 0) rfl) 4 (Ae false) rfl) 5 (Ad A5 (1+ps.length) c5) rfl) 6 (Ad none 0 0) rfl) AJ rfl zm) rfl ?_;refine⟨hF6,_,rfl,⟨(fun k=>(F k∨G k)∨(Value.slice A5 (1+ps.length) c5).ownBlock=some k),[Aa Ab 17,Ac ⟨#[]⟩,Aa Ab 0,Aa Ab 0,Ae false,Ad A5 (1+ps.length) c5,Ad none 0 0],rfl,?_,fun k hk=>⟨by have:=(HFl5.out k hk).1;omega,by simp only [qf1];exact(HFl5.out k hk).2⟩⟩,?_⟩
    ·exact(RepE.keeps (Keeps.of_set _ 6 (Ad none 0 0) (hnF)) (RepE.keeps (Keeps.of_set _ 5 (Ad A5 (1+ps.length) c5) (hnF)) (RepE.keeps (Keeps.of_set _ 4 (Ae false) (hnF)) (RepE.keeps (Keeps.of_set _ 3 (Aa Ab 0) (hnF)) (RepE.keeps (Keeps.of_set _ 2 (Aa Ab 0) (hnF)) (RepE.keeps (Keeps.of_set _ 1 (Ac ⟨#[]⟩) (hnF)) (RepE.keeps (Keeps.of_set _ 0 (Aa Ab 17) (hnF)) HR5.out)))))))
    ·refine HW.out.move hF6 ?_ HP5.out.suf;rw [PB.sets7 hnp];exact HP5.out.blk
end Go.Proofs.YtocdckniokhbbaaGreatDoor.Syn
