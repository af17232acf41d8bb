import Derived.Test.YtocdckniokhbbaaGreatDoorZkZz
import Derived.Test.YtocdckniokhbbaaGreatDoorZkFc
import Derived.Test.YtocdckniokhbbaaGreatDoorZkSynW
set_option linter.unusedVariables false
set_option linter.unusedSimpArgs false
open Go.Value renaming int→Aa,string→Ac,slice→Ad,bool→Ae
open Go.IntKind renaming i64→Ab
open Go.Obj renaming cells→Af
open Go.Proofs.Tryz renaming prog→Aj,underlying28→AJ
open Go.World renaming alloc→AA,setCell→At
open Go.RowKit.Below renaming refl→Ao,alloc→AD
open Nat renaming le_refl→Ag,le_of_lt→Ah
open Go.Lib renaming cell_of_heap→Ai
open Array renaming getElem?_eq_some_iff→An
set_option maxHeartbeats 8000000
set_option maxRecDepth 100000
namespace Go.Proofs.YtocdckniokhbbaaGreatDoor.Syn
open Go.RowKit Go.Shelf YtocdckniokhbbaaGreatDoorW.PrintWords YtocdckniokhbbaaGreatDoorW.PrintLast YtocdckniokhbbaaGreatDoorW.PrintMore CharB SpanA FigD LexA LexF
def qs4 (l:List (List UInt8 × Int)):List Value:=l.flatMap fun q=>[Ac (ba q.1),Aa Ab q.2]
def qs9 (k:Nat) (W:World) (e:Ending) (w':World):Prop:=∃ g cap,e= .returned (.slice (some ⟨g,0,none⟩) (qd2 k).length cap)∧w'.heap[g]?=some (Af (qs4 (qd2 k)).toArray 132 (0,0))∧W.heap.size≤g∧Below W.heap.size W w'
theorem rank_0 (w:World):Calls Aj 97 #[Aa Ab 0] w (qs9 0 w):=by
  have hix:∀ (N:Nat) (W:World),(Instr.index 165 (.agg #[Ad (some ⟨N,0,none⟩) 1 1,Ad (some ⟨N+1,0,none⟩) 1 1,Ad (some ⟨N+1+1,0,none⟩) 2 2,Ad (some ⟨N+1+1+1,0,none⟩) 4 4,Ad (some ⟨N+1+1+1+1,0,none⟩) 2 2,Ad (some ⟨N+1+1+1+1+1,0,none⟩) 3 3]) (Aa Ab 0)).run Aj W= .ok (Ad (some ⟨N,0,none⟩) 1 1) W:=fun _ _=>by kernel_rfl
  have s0:(w).heap.size=w.heap.size:=by simp only [qo]
  have s1:((AA w (Af #[Ac ⟨#[111,114]⟩,Aa Ab 1] 132))).heap.size=w.heap.size+1:=by simp only [qo]
  have s2:((AA (AA w (Af #[Ac ⟨#[111,114]⟩,Aa Ab 1] 132)) (Af #[Ac ⟨#[97,110,100]⟩,Aa Ab 2] 132))).heap.size=w.heap.size+1+1:=by simp only [qo]
  have s3:((AA (AA (AA w (Af #[Ac ⟨#[111,114]⟩,Aa Ab 1] 132)) (Af #[Ac ⟨#[97,110,100]⟩,Aa Ab 2] 132)) (Af #[Ac ⟨#[61]⟩,Aa Ab 3,Ac ⟨#[33,61]⟩,Aa Ab 4] 132))).heap.size=w.heap.size+1+1+1:=by simp only [qo]
  have s4:((AA (AA (AA (AA w (Af #[Ac ⟨#[111,114]⟩,Aa Ab 1] 132)) (Af #[Ac ⟨#[97,110,100]⟩,Aa Ab 2] 132)) (Af #[Ac ⟨#[61]⟩,Aa Ab 3,Ac ⟨#[33,61]⟩,Aa Ab 4] 132)) (Af #[Ac ⟨#[60]⟩,Aa Ab 5,Ac ⟨#[62]⟩,Aa Ab 7,Ac ⟨#[60,61]⟩,Aa Ab 6,Ac ⟨#[62,61]⟩,Aa Ab 8] 132))).heap.size=w.heap.size+1+1+1+1:=by simp only [qo]
  have s5:((AA (AA (AA (AA (AA w (Af #[Ac ⟨#[111,114]⟩,Aa Ab 1] 132)) (Af #[Ac ⟨#[97,110,100]⟩,Aa Ab 2] 132)) (Af #[Ac ⟨#[61]⟩,Aa Ab 3,Ac ⟨#[33,61]⟩,Aa Ab 4] 132)) (Af #[Ac ⟨#[60]⟩,Aa Ab 5,Ac ⟨#[62]⟩,Aa Ab 7,Ac ⟨#[60,61]⟩,Aa Ab 6,Ac ⟨#[62,61]⟩,Aa Ab 8] 132)) (Af #[Ac ⟨#[43]⟩,Aa Ab 9,Ac ⟨#[45]⟩,Aa Ab 10] 132))).heap.size=w.heap.size+1+1+1+1+1:=by simp only [qo]
  have hB:=(AD (AD (AD (AD (AD (AD (Ao w.heap.size w) (by rw [s0];omega) (Af #[Ac ⟨#[111,114]⟩,Aa Ab 1] 132)) (by rw [s1];omega) (Af #[Ac ⟨#[97,110,100]⟩,Aa Ab 2] 132)) (by rw [s2];omega) (Af #[Ac ⟨#[61]⟩,Aa Ab 3,Ac ⟨#[33,61]⟩,Aa Ab 4] 132)) (by rw [s3];omega) (Af #[Ac ⟨#[60]⟩,Aa Ab 5,Ac ⟨#[62]⟩,Aa Ab 7,Ac ⟨#[60,61]⟩,Aa Ab 6,Ac ⟨#[62,61]⟩,Aa Ab 8] 132)) (by rw [s4];omega) (Af #[Ac ⟨#[43]⟩,Aa Ab 9,Ac ⟨#[45]⟩,Aa Ab 10] 132)) (by rw [s5];omega) (Af #[Ac ⟨#[42]⟩,Aa Ab 11,Ac ⟨#[100,105,118]⟩,Aa Ab 12,Ac ⟨#[109,111,100]⟩,Aa Ab 13] 132));have hb:=qr w (Af #[Ac ⟨#[111,114]⟩,Aa Ab 1] 132);rw [s0]at hb;have hb2:=(qb (qb (qb (qb (qb hb (Af #[Ac ⟨#[97,110,100]⟩,Aa Ab 2] 132)) (Af #[Ac ⟨#[61]⟩,Aa Ab 3,Ac ⟨#[33,61]⟩,Aa Ab 4] 132)) (Af #[Ac ⟨#[60]⟩,Aa Ab 5,Ac ⟨#[62]⟩,Aa Ab 7,Ac ⟨#[60,61]⟩,Aa Ab 6,Ac ⟨#[62,61]⟩,Aa Ab 8] 132)) (Af #[Ac ⟨#[43]⟩,Aa Ab 9,Ac ⟨#[45]⟩,Aa Ab 10] 132)) (Af #[Ac ⟨#[42]⟩,Aa Ab 11,Ac ⟨#[100,105,118]⟩,Aa Ab 12,Ac ⟨#[109,111,100]⟩,Aa Ab 13] 132));have HB:=Aside0.mk hB;have Hb:=Aside0.mk hb2;clear hB hb hb2 s0 s1 s2 s3 s4 s5;go_enter Tryz.func97,Tryz.ntmps97;go_wp2_with fail
  go_ret;exact⟨_,_,rfl,Hb.out,by omega,HB.out⟩
theorem rank_1 (w:World):Calls Aj 97 #[Aa Ab 1] w (qs9 1 w):=by
  have hix:∀ (N:Nat) (W:World),(Instr.index 165 (.agg #[Ad (some ⟨N,0,none⟩) 1 1,Ad (some ⟨N+1,0,none⟩) 1 1,Ad (some ⟨N+1+1,0,none⟩) 2 2,Ad (some ⟨N+1+1+1,0,none⟩) 4 4,Ad (some ⟨N+1+1+1+1,0,none⟩) 2 2,Ad (some ⟨N+1+1+1+1+1,0,none⟩) 3 3]) (Aa Ab 1)).run Aj W= .ok (Ad (some ⟨N+1,0,none⟩) 1 1) W:=fun _ _=>by kernel_rfl
  have s0:(w).heap.size=w.heap.size:=by simp only [qo]
  have s1:((AA w (Af #[Ac ⟨#[111,114]⟩,Aa Ab 1] 132))).heap.size=w.heap.size+1:=by simp only [qo]
  have s2:((AA (AA w (Af #[Ac ⟨#[111,114]⟩,Aa Ab 1] 132)) (Af #[Ac ⟨#[97,110,100]⟩,Aa Ab 2] 132))).heap.size=w.heap.size+1+1:=by simp only [qo]
  have s3:((AA (AA (AA w (Af #[Ac ⟨#[111,114]⟩,Aa Ab 1] 132)) (Af #[Ac ⟨#[97,110,100]⟩,Aa Ab 2] 132)) (Af #[Ac ⟨#[61]⟩,Aa Ab 3,Ac ⟨#[33,61]⟩,Aa Ab 4] 132))).heap.size=w.heap.size+1+1+1:=by simp only [qo]
  have s4:((AA (AA (AA (AA w (Af #[Ac ⟨#[111,114]⟩,Aa Ab 1] 132)) (Af #[Ac ⟨#[97,110,100]⟩,Aa Ab 2] 132)) (Af #[Ac ⟨#[61]⟩,Aa Ab 3,Ac ⟨#[33,61]⟩,Aa Ab 4] 132)) (Af #[Ac ⟨#[60]⟩,Aa Ab 5,Ac ⟨#[62]⟩,Aa Ab 7,Ac ⟨#[60,61]⟩,Aa Ab 6,Ac ⟨#[62,61]⟩,Aa Ab 8] 132))).heap.size=w.heap.size+1+1+1+1:=by simp only [qo]
  have s5:((AA (AA (AA (AA (AA w (Af #[Ac ⟨#[111,114]⟩,Aa Ab 1] 132)) (Af #[Ac ⟨#[97,110,100]⟩,Aa Ab 2] 132)) (Af #[Ac ⟨#[61]⟩,Aa Ab 3,Ac ⟨#[33,61]⟩,Aa Ab 4] 132)) (Af #[Ac ⟨#[60]⟩,Aa Ab 5,Ac ⟨#[62]⟩,Aa Ab 7,Ac ⟨#[60,61]⟩,Aa Ab 6,Ac ⟨#[62,61]⟩,Aa Ab 8] 132)) (Af #[Ac ⟨#[43]⟩,Aa Ab 9,Ac ⟨#[45]⟩,Aa Ab 10] 132))).heap.size=w.heap.size+1+1+1+1+1:=by simp only [qo]
  have hB:=(AD (AD (AD (AD (AD (AD (Ao w.heap.size w) (by rw [s0];omega) (Af #[Ac ⟨#[111,114]⟩,Aa Ab 1] 132)) (by rw [s1];omega) (Af #[Ac ⟨#[97,110,100]⟩,Aa Ab 2] 132)) (by rw [s2];omega) (Af #[Ac ⟨#[61]⟩,Aa Ab 3,Ac ⟨#[33,61]⟩,Aa Ab 4] 132)) (by rw [s3];omega) (Af #[Ac ⟨#[60]⟩,Aa Ab 5,Ac ⟨#[62]⟩,Aa Ab 7,Ac ⟨#[60,61]⟩,Aa Ab 6,Ac ⟨#[62,61]⟩,Aa Ab 8] 132)) (by rw [s4];omega) (Af #[Ac ⟨#[43]⟩,Aa Ab 9,Ac ⟨#[45]⟩,Aa Ab 10] 132)) (by rw [s5];omega) (Af #[Ac ⟨#[42]⟩,Aa Ab 11,Ac ⟨#[100,105,118]⟩,Aa Ab 12,Ac ⟨#[109,111,100]⟩,Aa Ab 13] 132));have hb:=qr (AA w (Af #[Ac ⟨#[111,114]⟩,Aa Ab 1] 132)) (Af #[Ac ⟨#[97,110,100]⟩,Aa Ab 2] 132);rw [s1]at hb;have hb2:=(qb (qb (qb (qb hb (Af #[Ac ⟨#[61]⟩,Aa Ab 3,Ac ⟨#[33,61]⟩,Aa Ab 4] 132)) (Af #[Ac ⟨#[60]⟩,Aa Ab 5,Ac ⟨#[62]⟩,Aa Ab 7,Ac ⟨#[60,61]⟩,Aa Ab 6,Ac ⟨#[62,61]⟩,Aa Ab 8] 132)) (Af #[Ac ⟨#[43]⟩,Aa Ab 9,Ac ⟨#[45]⟩,Aa Ab 10] 132)) (Af #[Ac ⟨#[42]⟩,Aa Ab 11,Ac ⟨#[100,105,118]⟩,Aa Ab 12,Ac ⟨#[109,111,100]⟩,Aa Ab 13] 132));have HB:=Aside0.mk hB;have Hb:=Aside0.mk hb2;clear hB hb hb2 s0 s1 s2 s3 s4 s5;go_enter Tryz.func97,Tryz.ntmps97;go_wp2_with fail
  go_ret;exact⟨_,_,rfl,Hb.out,by omega,HB.out⟩
theorem rank_2 (w:World):Calls Aj 97 #[Aa Ab 2] w (qs9 2 w):=by
  have hix:∀ (N:Nat) (W:World),(Instr.index 165 (.agg #[Ad (some ⟨N,0,none⟩) 1 1,Ad (some ⟨N+1,0,none⟩) 1 1,Ad (some ⟨N+1+1,0,none⟩) 2 2,Ad (some ⟨N+1+1+1,0,none⟩) 4 4,Ad (some ⟨N+1+1+1+1,0,none⟩) 2 2,Ad (some ⟨N+1+1+1+1+1,0,none⟩) 3 3]) (Aa Ab 2)).run Aj W= .ok (Ad (some ⟨N+1+1,0,none⟩) 2 2) W:=fun _ _=>by kernel_rfl
  have s0:(w).heap.size=w.heap.size:=by simp only [qo]
  have s1:((AA w (Af #[Ac ⟨#[111,114]⟩,Aa Ab 1] 132))).heap.size=w.heap.size+1:=by simp only [qo]
  have s2:((AA (AA w (Af #[Ac ⟨#[111,114]⟩,Aa Ab 1] 132)) (Af #[Ac ⟨#[97,110,100]⟩,Aa Ab 2] 132))).heap.size=w.heap.size+1+1:=by simp only [qo]
  have s3:((AA (AA (AA w (Af #[Ac ⟨#[111,114]⟩,Aa Ab 1] 132)) (Af #[Ac ⟨#[97,110,100]⟩,Aa Ab 2] 132)) (Af #[Ac ⟨#[61]⟩,Aa Ab 3,Ac ⟨#[33,61]⟩,Aa Ab 4] 132))).heap.size=w.heap.size+1+1+1:=by simp only [qo]
  have s4:((AA (AA (AA (AA w (Af #[Ac ⟨#[111,114]⟩,Aa Ab 1] 132)) (Af #[Ac ⟨#[97,110,100]⟩,Aa Ab 2] 132)) (Af #[Ac ⟨#[61]⟩,Aa Ab 3,Ac ⟨#[33,61]⟩,Aa Ab 4] 132)) (Af #[Ac ⟨#[60]⟩,Aa Ab 5,Ac ⟨#[62]⟩,Aa Ab 7,Ac ⟨#[60,61]⟩,Aa Ab 6,Ac ⟨#[62,61]⟩,Aa Ab 8] 132))).heap.size=w.heap.size+1+1+1+1:=by simp only [qo]
  have s5:((AA (AA (AA (AA (AA w (Af #[Ac ⟨#[111,114]⟩,Aa Ab 1] 132)) (Af #[Ac ⟨#[97,110,100]⟩,Aa Ab 2] 132)) (Af #[Ac ⟨#[61]⟩,Aa Ab 3,Ac ⟨#[33,61]⟩,Aa Ab 4] 132)) (Af #[Ac ⟨#[60]⟩,Aa Ab 5,Ac ⟨#[62]⟩,Aa Ab 7,Ac ⟨#[60,61]⟩,Aa Ab 6,Ac ⟨#[62,61]⟩,Aa Ab 8] 132)) (Af #[Ac ⟨#[43]⟩,Aa Ab 9,Ac ⟨#[45]⟩,Aa Ab 10] 132))).heap.size=w.heap.size+1+1+1+1+1:=by simp only [qo]
  have hB:=(AD (AD (AD (AD (AD (AD (Ao w.heap.size w) (by rw [s0];omega) (Af #[Ac ⟨#[111,114]⟩,Aa Ab 1] 132)) (by rw [s1];omega) (Af #[Ac ⟨#[97,110,100]⟩,Aa Ab 2] 132)) (by rw [s2];omega) (Af #[Ac ⟨#[61]⟩,Aa Ab 3,Ac ⟨#[33,61]⟩,Aa Ab 4] 132)) (by rw [s3];omega) (Af #[Ac ⟨#[60]⟩,Aa Ab 5,Ac ⟨#[62]⟩,Aa Ab 7,Ac ⟨#[60,61]⟩,Aa Ab 6,Ac ⟨#[62,61]⟩,Aa Ab 8] 132)) (by rw [s4];omega) (Af #[Ac ⟨#[43]⟩,Aa Ab 9,Ac ⟨#[45]⟩,Aa Ab 10] 132)) (by rw [s5];omega) (Af #[Ac ⟨#[42]⟩,Aa Ab 11,Ac ⟨#[100,105,118]⟩,Aa Ab 12,Ac ⟨#[109,111,100]⟩,Aa Ab 13] 132));have hb:=qr (AA (AA w (Af #[Ac ⟨#[111,114]⟩,Aa Ab 1] 132)) (Af #[Ac ⟨#[97,110,100]⟩,Aa Ab 2] 132)) (Af #[Ac ⟨#[61]⟩,Aa Ab 3,Ac ⟨#[33,61]⟩,Aa Ab 4] 132);rw [s2]at hb;have hb2:=(qb (qb (qb hb (Af #[Ac ⟨#[60]⟩,Aa Ab 5,Ac ⟨#[62]⟩,Aa Ab 7,Ac ⟨#[60,61]⟩,Aa Ab 6,Ac ⟨#[62,61]⟩,Aa Ab 8] 132)) (Af #[Ac ⟨#[43]⟩,Aa Ab 9,Ac ⟨#[45]⟩,Aa Ab 10] 132)) (Af #[Ac ⟨#[42]⟩,Aa Ab 11,Ac ⟨#[100,105,118]⟩,Aa Ab 12,Ac ⟨#[109,111,100]⟩,Aa Ab 13] 132));have HB:=Aside0.mk hB;have Hb:=Aside0.mk hb2;clear hB hb hb2 s0 s1 s2 s3 s4 s5;go_enter Tryz.func97,Tryz.ntmps97;go_wp2_with fail
  go_ret;exact⟨_,_,rfl,Hb.out,by omega,HB.out⟩
theorem rank_3 (w:World):Calls Aj 97 #[Aa Ab 3] w (qs9 3 w):=by
  have hix:∀ (N:Nat) (W:World),(Instr.index 165 (.agg #[Ad (some ⟨N,0,none⟩) 1 1,Ad (some ⟨N+1,0,none⟩) 1 1,Ad (some ⟨N+1+1,0,none⟩) 2 2,Ad (some ⟨N+1+1+1,0,none⟩) 4 4,Ad (some ⟨N+1+1+1+1,0,none⟩) 2 2,Ad (some ⟨N+1+1+1+1+1,0,none⟩) 3 3]) (Aa Ab 3)).run Aj W= .ok (Ad (some ⟨N+1+1+1,0,none⟩) 4 4) W:=fun _ _=>by kernel_rfl
  have s0:(w).heap.size=w.heap.size:=by simp only [qo]
  have s1:((AA w (Af #[Ac ⟨#[111,114]⟩,Aa Ab 1] 132))).heap.size=w.heap.size+1:=by simp only [qo]
  have s2:((AA (AA w (Af #[Ac ⟨#[111,114]⟩,Aa Ab 1] 132)) (Af #[Ac ⟨#[97,110,100]⟩,Aa Ab 2] 132))).heap.size=w.heap.size+1+1:=by simp only [qo]
  have s3:((AA (AA (AA w (Af #[Ac ⟨#[111,114]⟩,Aa Ab 1] 132)) (Af #[Ac ⟨#[97,110,100]⟩,Aa Ab 2] 132)) (Af #[Ac ⟨#[61]⟩,Aa Ab 3,Ac ⟨#[33,61]⟩,Aa Ab 4] 132))).heap.size=w.heap.size+1+1+1:=by simp only [qo]
  have s4:((AA (AA (AA (AA w (Af #[Ac ⟨#[111,114]⟩,Aa Ab 1] 132)) (Af #[Ac ⟨#[97,110,100]⟩,Aa Ab 2] 132)) (Af #[Ac ⟨#[61]⟩,Aa Ab 3,Ac ⟨#[33,61]⟩,Aa Ab 4] 132)) (Af #[Ac ⟨#[60]⟩,Aa Ab 5,Ac ⟨#[62]⟩,Aa Ab 7,Ac ⟨#[60,61]⟩,Aa Ab 6,Ac ⟨#[62,61]⟩,Aa Ab 8] 132))).heap.size=w.heap.size+1+1+1+1:=by simp only [qo]
  have s5:((AA (AA (AA (AA (AA w (Af #[Ac ⟨#[111,114]⟩,Aa Ab 1] 132)) (Af #[Ac ⟨#[97,110,100]⟩,Aa Ab 2] 132)) (Af #[Ac ⟨#[61]⟩,Aa Ab 3,Ac ⟨#[33,61]⟩,Aa Ab 4] 132)) (Af #[Ac ⟨#[60]⟩,Aa Ab 5,Ac ⟨#[62]⟩,Aa Ab 7,Ac ⟨#[60,61]⟩,Aa Ab 6,Ac ⟨#[62,61]⟩,Aa Ab 8] 132)) (Af #[Ac ⟨#[43]⟩,Aa Ab 9,Ac ⟨#[45]⟩,Aa Ab 10] 132))).heap.size=w.heap.size+1+1+1+1+1:=by simp only [qo]
  have hB:=(AD (AD (AD (AD (AD (AD (Ao w.heap.size w) (by rw [s0];omega) (Af #[Ac ⟨#[111,114]⟩,Aa Ab 1] 132)) (by rw [s1];omega) (Af #[Ac ⟨#[97,110,100]⟩,Aa Ab 2] 132)) (by rw [s2];omega) (Af #[Ac ⟨#[61]⟩,Aa Ab 3,Ac ⟨#[33,61]⟩,Aa Ab 4] 132)) (by rw [s3];omega) (Af #[Ac ⟨#[60]⟩,Aa Ab 5,Ac ⟨#[62]⟩,Aa Ab 7,Ac ⟨#[60,61]⟩,Aa Ab 6,Ac ⟨#[62,61]⟩,Aa Ab 8] 132)) (by rw [s4];omega) (Af #[Ac ⟨#[43]⟩,Aa Ab 9,Ac ⟨#[45]⟩,Aa Ab 10] 132)) (by rw [s5];omega) (Af #[Ac ⟨#[42]⟩,Aa Ab 11,Ac ⟨#[100,105,118]⟩,Aa Ab 12,Ac ⟨#[109,111,100]⟩,Aa Ab 13] 132));have hb:=qr (AA (AA (AA w (Af #[Ac ⟨#[111,114]⟩,Aa Ab 1] 132)) (Af #[Ac ⟨#[97,110,100]⟩,Aa Ab 2] 132)) (Af #[Ac ⟨#[61]⟩,Aa Ab 3,Ac ⟨#[33,61]⟩,Aa Ab 4] 132)) (Af #[Ac ⟨#[60]⟩,Aa Ab 5,Ac ⟨#[62]⟩,Aa Ab 7,Ac ⟨#[60,61]⟩,Aa Ab 6,Ac ⟨#[62,61]⟩,Aa Ab 8] 132);rw [s3]at hb;have hb2:=(qb (qb hb (Af #[Ac ⟨#[43]⟩,Aa Ab 9,Ac ⟨#[45]⟩,Aa Ab 10] 132)) (Af #[Ac ⟨#[42]⟩,Aa Ab 11,Ac ⟨#[100,105,118]⟩,Aa Ab 12,Ac ⟨#[109,111,100]⟩,Aa Ab 13] 132));have HB:=Aside0.mk hB;have Hb:=Aside0.mk hb2;clear hB hb hb2 s0 s1 s2 s3 s4 s5;go_enter Tryz.func97,Tryz.ntmps97;go_wp2_with fail
  go_ret;exact⟨_,_,rfl,Hb.out,by omega,HB.out⟩
theorem rank_4 (w:World):Calls Aj 97 #[Aa Ab 4] w (qs9 4 w):=by
  have hix:∀ (N:Nat) (W:World),(Instr.index 165 (.agg #[Ad (some ⟨N,0,none⟩) 1 1,Ad (some ⟨N+1,0,none⟩) 1 1,Ad (some ⟨N+1+1,0,none⟩) 2 2,Ad (some ⟨N+1+1+1,0,none⟩) 4 4,Ad (some ⟨N+1+1+1+1,0,none⟩) 2 2,Ad (some ⟨N+1+1+1+1+1,0,none⟩) 3 3]) (Aa Ab 4)).run Aj W= .ok (Ad (some ⟨N+1+1+1+1,0,none⟩) 2 2) W:=fun _ _=>by kernel_rfl
  have s0:(w).heap.size=w.heap.size:=by simp only [qo]
  have s1:((AA w (Af #[Ac ⟨#[111,114]⟩,Aa Ab 1] 132))).heap.size=w.heap.size+1:=by simp only [qo]
  have s2:((AA (AA w (Af #[Ac ⟨#[111,114]⟩,Aa Ab 1] 132)) (Af #[Ac ⟨#[97,110,100]⟩,Aa Ab 2] 132))).heap.size=w.heap.size+1+1:=by simp only [qo]
  have s3:((AA (AA (AA w (Af #[Ac ⟨#[111,114]⟩,Aa Ab 1] 132)) (Af #[Ac ⟨#[97,110,100]⟩,Aa Ab 2] 132)) (Af #[Ac ⟨#[61]⟩,Aa Ab 3,Ac ⟨#[33,61]⟩,Aa Ab 4] 132))).heap.size=w.heap.size+1+1+1:=by simp only [qo]
  have s4:((AA (AA (AA (AA w (Af #[Ac ⟨#[111,114]⟩,Aa Ab 1] 132)) (Af #[Ac ⟨#[97,110,100]⟩,Aa Ab 2] 132)) (Af #[Ac ⟨#[61]⟩,Aa Ab 3,Ac ⟨#[33,61]⟩,Aa Ab 4] 132)) (Af #[Ac ⟨#[60]⟩,Aa Ab 5,Ac ⟨#[62]⟩,Aa Ab 7,Ac ⟨#[60,61]⟩,Aa Ab 6,Ac ⟨#[62,61]⟩,Aa Ab 8] 132))).heap.size=w.heap.size+1+1+1+1:=by simp only [qo]
  have s5:((AA (AA (AA (AA (AA w (Af #[Ac ⟨#[111,114]⟩,Aa Ab 1] 132)) (Af #[Ac ⟨#[97,110,100]⟩,Aa Ab 2] 132)) (Af #[Ac ⟨#[61]⟩,Aa Ab 3,Ac ⟨#[33,61]⟩,Aa Ab 4] 132)) (Af #[Ac ⟨#[60]⟩,Aa Ab 5,Ac ⟨#[62]⟩,Aa Ab 7,Ac ⟨#[60,61]⟩,Aa Ab 6,Ac ⟨#[62,61]⟩,Aa Ab 8] 132)) (Af #[Ac ⟨#[43]⟩,Aa Ab 9,Ac ⟨#[45]⟩,Aa Ab 10] 132))).heap.size=w.heap.size+1+1+1+1+1:=by simp only [qo]
  have hB:=(AD (AD (AD (AD (AD (AD (Ao w.heap.size w) (by rw [s0];omega) (Af #[Ac ⟨#[111,114]⟩,Aa Ab 1] 132)) (by rw [s1];omega) (Af #[Ac ⟨#[97,110,100]⟩,Aa Ab 2] 132)) (by rw [s2];omega) (Af #[Ac ⟨#[61]⟩,Aa Ab 3,Ac ⟨#[33,61]⟩,Aa Ab 4] 132)) (by rw [s3];omega) (Af #[Ac ⟨#[60]⟩,Aa Ab 5,Ac ⟨#[62]⟩,Aa Ab 7,Ac ⟨#[60,61]⟩,Aa Ab 6,Ac ⟨#[62,61]⟩,Aa Ab 8] 132)) (by rw [s4];omega) (Af #[Ac ⟨#[43]⟩,Aa Ab 9,Ac ⟨#[45]⟩,Aa Ab 10] 132)) (by rw [s5];omega) (Af #[Ac ⟨#[42]⟩,Aa Ab 11,Ac ⟨#[100,105,118]⟩,Aa Ab 12,Ac ⟨#[109,111,100]⟩,Aa Ab 13] 132));have hb:=qr (AA (AA (AA (AA w (Af #[Ac ⟨#[111,114]⟩,Aa Ab 1] 132)) (Af #[Ac ⟨#[97,110,100]⟩,Aa Ab 2] 132)) (Af #[Ac ⟨#[61]⟩,Aa Ab 3,Ac ⟨#[33,61]⟩,Aa Ab 4] 132)) (Af #[Ac ⟨#[60]⟩,Aa Ab 5,Ac ⟨#[62]⟩,Aa Ab 7,Ac ⟨#[60,61]⟩,Aa Ab 6,Ac ⟨#[62,61]⟩,Aa Ab 8] 132)) (Af #[Ac ⟨#[43]⟩,Aa Ab 9,Ac ⟨#[45]⟩,Aa Ab 10] 132);rw [s4]at hb;have hb2:=(qb hb (Af #[Ac ⟨#[42]⟩,Aa Ab 11,Ac ⟨#[100,105,118]⟩,Aa Ab 12,Ac ⟨#[109,111,100]⟩,Aa Ab 13] 132));have HB:=Aside0.mk hB;have Hb:=Aside0.mk hb2;clear hB hb hb2 s0 s1 s2 s3 s4 s5;go_enter Tryz.func97,Tryz.ntmps97;go_wp2_with fail
  go_ret;exact⟨_,_,rfl,Hb.out,by omega,HB.out⟩
theorem rank_5 (w:World):Calls Aj 97 #[Aa Ab 5] w (qs9 5 w):=by
  have hix:∀ (N:Nat) (W:World),(Instr.index 165 (.agg #[Ad (some ⟨N,0,none⟩) 1 1,Ad (some ⟨N+1,0,none⟩) 1 1,Ad (some ⟨N+1+1,0,none⟩) 2 2,Ad (some ⟨N+1+1+1,0,none⟩) 4 4,Ad (some ⟨N+1+1+1+1,0,none⟩) 2 2,Ad (some ⟨N+1+1+1+1+1,0,none⟩) 3 3]) (Aa Ab 5)).run Aj W= .ok (Ad (some ⟨N+1+1+1+1+1,0,none⟩) 3 3) W:=fun _ _=>by kernel_rfl
  have s0:(w).heap.size=w.heap.size:=by simp only [qo]
  have s1:((AA w (Af #[Ac ⟨#[111,114]⟩,Aa Ab 1] 132))).heap.size=w.heap.size+1:=by simp only [qo]
  have s2:((AA (AA w (Af #[Ac ⟨#[111,114]⟩,Aa Ab 1] 132)) (Af #[Ac ⟨#[97,110,100]⟩,Aa Ab 2] 132))).heap.size=w.heap.size+1+1:=by simp only [qo]
  have s3:((AA (AA (AA w (Af #[Ac ⟨#[111,114]⟩,Aa Ab 1] 132)) (Af #[Ac ⟨#[97,110,100]⟩,Aa Ab 2] 132)) (Af #[Ac ⟨#[61]⟩,Aa Ab 3,Ac ⟨#[33,61]⟩,Aa Ab 4] 132))).heap.size=w.heap.size+1+1+1:=by simp only [qo]
  have s4:((AA (AA (AA (AA w (Af #[Ac ⟨#[111,114]⟩,Aa Ab 1] 132)) (Af #[Ac ⟨#[97,110,100]⟩,Aa Ab 2] 132)) (Af #[Ac ⟨#[61]⟩,Aa Ab 3,Ac ⟨#[33,61]⟩,Aa Ab 4] 132)) (Af #[Ac ⟨#[60]⟩,Aa Ab 5,Ac ⟨#[62]⟩,Aa Ab 7,Ac ⟨#[60,61]⟩,Aa Ab 6,Ac ⟨#[62,61]⟩,Aa Ab 8] 132))).heap.size=w.heap.size+1+1+1+1:=by simp only [qo]
  have s5:((AA (AA (AA (AA (AA w (Af #[Ac ⟨#[111,114]⟩,Aa Ab 1] 132)) (Af #[Ac ⟨#[97,110,100]⟩,Aa Ab 2] 132)) (Af #[Ac ⟨#[61]⟩,Aa Ab 3,Ac ⟨#[33,61]⟩,Aa Ab 4] 132)) (Af #[Ac ⟨#[60]⟩,Aa Ab 5,Ac ⟨#[62]⟩,Aa Ab 7,Ac ⟨#[60,61]⟩,Aa Ab 6,Ac ⟨#[62,61]⟩,Aa Ab 8] 132)) (Af #[Ac ⟨#[43]⟩,Aa Ab 9,Ac ⟨#[45]⟩,Aa Ab 10] 132))).heap.size=w.heap.size+1+1+1+1+1:=by simp only [qo]
  have hB:=(AD (AD (AD (AD (AD (AD (Ao w.heap.size w) (by rw [s0];omega) (Af #[Ac ⟨#[111,114]⟩,Aa Ab 1] 132)) (by rw [s1];omega) (Af #[Ac ⟨#[97,110,100]⟩,Aa Ab 2] 132)) (by rw [s2];omega) (Af #[Ac ⟨#[61]⟩,Aa Ab 3,Ac ⟨#[33,61]⟩,Aa Ab 4] 132)) (by rw [s3];omega) (Af #[Ac ⟨#[60]⟩,Aa Ab 5,Ac ⟨#[62]⟩,Aa Ab 7,Ac ⟨#[60,61]⟩,Aa Ab 6,Ac ⟨#[62,61]⟩,Aa Ab 8] 132)) (by rw [s4];omega) (Af #[Ac ⟨#[43]⟩,Aa Ab 9,Ac ⟨#[45]⟩,Aa Ab 10] 132)) (by rw [s5];omega) (Af #[Ac ⟨#[42]⟩,Aa Ab 11,Ac ⟨#[100,105,118]⟩,Aa Ab 12,Ac ⟨#[109,111,100]⟩,Aa Ab 13] 132));have hb:=qr (AA (AA (AA (AA (AA w (Af #[Ac ⟨#[111,114]⟩,Aa Ab 1] 132)) (Af #[Ac ⟨#[97,110,100]⟩,Aa Ab 2] 132)) (Af #[Ac ⟨#[61]⟩,Aa Ab 3,Ac ⟨#[33,61]⟩,Aa Ab 4] 132)) (Af #[Ac ⟨#[60]⟩,Aa Ab 5,Ac ⟨#[62]⟩,Aa Ab 7,Ac ⟨#[60,61]⟩,Aa Ab 6,Ac ⟨#[62,61]⟩,Aa Ab 8] 132)) (Af #[Ac ⟨#[43]⟩,Aa Ab 9,Ac ⟨#[45]⟩,Aa Ab 10] 132)) (Af #[Ac ⟨#[42]⟩,Aa Ab 11,Ac ⟨#[100,105,118]⟩,Aa Ab 12,Ac ⟨#[109,111,100]⟩,Aa Ab 13] 132);rw [s5]at hb;have hb2:=hb;have HB:=Aside0.mk hB;have Hb:=Aside0.mk hb2;clear hB hb hb2 s0 s1 s2 s3 s4 s5;go_enter Tryz.func97,Tryz.ntmps97;go_wp2_with fail
  go_ret;exact⟨_,_,rfl,Hb.out,by omega,HB.out⟩
theorem qz12 (k:Nat) (hk:k<6) (w:World):Calls Aj 97 #[Aa Ab (k:Int)] w (qs9 k w):=by
  match k,hk with
  | 0,_=>exact rank_0 w
  | 1,_=>exact rank_1 w
  | 2,_=>exact rank_2 w
  | 3,_=>exact rank_3 w
  | 4,_=>exact rank_4 w
  | 5,_=>exact rank_5 w
end Go.Proofs.YtocdckniokhbbaaGreatDoor.Syn
namespace Go.Proofs.YtocdckniokhbbaaGreatDoor.Syn
open Go.RowKit Go.Shelf YtocdckniokhbbaaGreatDoorW.PrintWords YtocdckniokhbbaaGreatDoorW.PrintLast YtocdckniokhbbaaGreatDoorW.PrintMore CharB SpanA FigD LexA LexF
theorem qp24 (p:Nat) (A:Option Addr) (cap:Nat) (l r:List Wd) (k:Nat) (hk:k<6) (q:Option (Ex × List Wd)) (w:World) (h:PB p A cap l r w) (b0 b1:Nat) (h0:w.heap[b0]?=some (Af #[qv p] 60 (0,0))) (h1:w.heap[b1]?=some (Af #[Aa Ab (k:Int)] 3 (0,0)))
    (hb:∀ W,PB p A cap l r W→Calls Aj 52 #[qv p,Aa Ab ((k:Int)+1)] W (Ans p A cap l W (isE W.heap.size) q)) :
    Calls Aj 96 #[.pointer (some ⟨b0,0,none⟩),.pointer (some ⟨b1,0,none⟩)] w (Ans p A cap l w (isE w.heap.size) q):=by
  have HW:=Aside0.mk h;have hp:=h.lt;have HP:=Aside0.mk hp;have B1:=(Ao w.heap.size w).alloc (Ag _) (Af #[Aa Ab 0,Ac ⟨#[]⟩,Aa Ab 0,Aa Ab 0,Ae false,Ad none 0 0,Ad none 0 0] 28);have hP0:=h.below B1;have HS:=Aside0.mk (show(w.alloc (Af #[Aa Ab 0,Ac ⟨#[]⟩,Aa Ab 0,Aa Ab 0,Ae false,Ad none 0 0,Ad none 0 0] 28)).heap.size=w.heap.size+1 by simp);have HF:=Aside0.mk ((Fr.refl p w.heap.size w).alloc (Ag _) (Ah hp) (Af #[Aa Ab 0,Ac ⟨#[]⟩,Aa Ab 0,Aa Ab 0,Ae false,Ad none 0 0,Ad none 0 0] 28));have HN:=Aside0.mk (qr w (Af #[Aa Ab 0,Ac ⟨#[]⟩,Aa Ab 0,Aa Ab 0,Ae false,Ad none 0 0,Ad none 0 0] 28));have hc:=hb _ hP0;have hk2:(k:Int)<6:=by omega
  have hk3:(0:Int)≤k:=by omega
  have a0:=(Ai (qb h0 (Af #[Aa Ab 0,Ac ⟨#[]⟩,Aa Ab 0,Aa Ab 0,Ae false,Ad none 0 0,Ad none 0 0] 28)) 0).trans (show _=some (qv p)from rfl);have a1:=(Ai (qb h1 (Af #[Aa Ab 0,Ac ⟨#[]⟩,Aa Ab 0,Aa Ab 0,Ae false,Ad none 0 0,Ad none 0 0] 28)) 0).trans (show _=some (Aa Ab (k:Int))from rfl);clear h hp B1 hb hP0 h0 h1 hk;unfold qv at *;go_enter Tryz.func96,Tryz.ntmps96;go_wp2_with fail
  refine hc.mono ?_;rintro e w1 ⟨hf,hm⟩;have hsz1:=hf.1.size;have HF1:=Aside0.mk (Fr.chain HF.out hf zau (Ah HP.out));have HN1:=Aside0.mk (Fr.get hf HN.out zr);have HL1:=Aside0.mk (show w.heap.size<w1.heap.size from(An.1 HN1.out).1)
  rcases q with _ | ⟨x,r1⟩
  · have hm:e=qa2:=hm;subst hm;exact⟨rfl,HF1.out,rfl⟩
  · obtain⟨v,rfl,hE,hP1⟩:=hm;obtain⟨F,op,s,d,t,b,A1,n1,c1,A2,n2,c2,rfl,hR,hFl⟩:=hE.open;have HR:=Aside0.mk hR;have HFl:=Aside0.mk (show ∀ k,F k→w.heap.size<k∧k<w1.heap.size from fun k hk=>za9);have HP1:=Aside0.mk hP1;obtain⟨zc0,zc1,zc2,zc3,zc4,zc5,zc6,zf0,zf1,zf2,zf3,zf4,zf5,zf6⟩:=fd7 (HN1.out);clear hc hf hE hR hFl hP1 hsz1 a0 a1;go_wp2_with fail
    have hnF:¬ F w.heap.size:=fun hq=>by have:=(HFl.out _ hq).1;omega
    have hnp:p≠w.heap.size:=by have:=HP.out;omega
    have hF6:=(Fr.set (Fr.set (Fr.set (Fr.set (Fr.set (Fr.set (Fr.set HF1.out (g:=w.heap.size) (.inr (Ag _)) (Ah HP.out) 0 (Aa Ab op)) (g:=w.heap.size) (.inr (Ag _)) (Ah HP.out) 1 (Ac s)) (g:=w.heap.size) (.inr (Ag _)) (Ah HP.out) 2 (Aa Ab d)) (g:=w.heap.size) (.inr (Ag _)) (Ah HP.out) 3 (Aa Ab t)) (g:=w.heap.size) (.inr (Ag _)) (Ah HP.out) 4 (Ae b)) (g:=w.heap.size) (.inr (Ag _)) (Ah HP.out) 5 (Ad A1 n1 c1)) (g:=w.heap.size) (.inr (Ag _)) (Ah HP.out) 6 (Ad A2 n2 c2));refine bodyPost_ret (results_cell_row rfl _ _ w.heap.size 28 #[Aa Ab op,Ac s,Aa Ab d,Aa Ab t,Ae b,Ad A1 n1 c1,Ad A2 n2 c2] (0,0) _ rfl (qk (cs':= #[Aa Ab op,Ac s,Aa Ab d,Aa Ab t,Ae b,Ad A1 n1 c1,Ad A2 n2 c2]) (qk (cs':= #[Aa Ab op,Ac s,Aa Ab d,Aa Ab t,Ae b,Ad A1 n1 c1,Ad none 0 0]) (qk (cs':= #[Aa Ab op,Ac s,Aa Ab d,Aa Ab t,Ae b,Ad none 0 0,Ad none 0 0]) (qk (cs':= #[Aa Ab op,Ac s,Aa Ab d,Aa Ab t,Ae false,Ad none 0 0,Ad none 0 0]) (qk (cs':= #[Aa Ab op,Ac s,Aa Ab d,Aa Ab 0,Ae false,Ad none 0 0,Ad none 0 0]) (qk (cs':= #[Aa Ab op,Ac s,Aa Ab 0,Aa Ab 0,Ae false,Ad none 0 0,Ad none 0 0]) (qk (cs':= #[Aa Ab op,Ac ⟨#[]⟩,Aa Ab 0,Aa Ab 0,Ae false,Ad none 0 0,Ad none 0 0]) HN1.out 0 (Aa Ab op) rfl) 1 (Ac s) rfl) 2 (Aa Ab d) rfl) 3 (Aa Ab t) rfl) 4 (Ae b) rfl) 5 (Ad A1 n1 c1) rfl) 6 (Ad A2 n2 c2) rfl) AJ rfl zm) rfl ?_;refine⟨hF6,_,rfl,⟨F,[Aa Ab op,Ac s,Aa Ab d,Aa Ab t,Ae b,Ad A1 n1 c1,Ad A2 n2 c2],rfl,?_,fun k hk=>⟨Ah (HFl.out k hk).1,zao⟩⟩,?_⟩
    · exact(RepE.keeps (Keeps.of_set _ 6 (Ad A2 n2 c2) (hnF)) (RepE.keeps (Keeps.of_set _ 5 (Ad A1 n1 c1) (hnF)) (RepE.keeps (Keeps.of_set _ 4 (Ae b) (hnF)) (RepE.keeps (Keeps.of_set _ 3 (Aa Ab t) (hnF)) (RepE.keeps (Keeps.of_set _ 2 (Aa Ab d) (hnF)) (RepE.keeps (Keeps.of_set _ 1 (Ac s) (hnF)) (RepE.keeps (Keeps.of_set _ 0 (Aa Ab op) (hnF)) HR.out)))))))
    · refine HW.out.move hF6 ?_ HP1.out.suf;rw [PB.sets7 hnp];exact HP1.out.blk
end Go.Proofs.YtocdckniokhbbaaGreatDoor.Syn
namespace Go.Proofs.YtocdckniokhbbaaGreatDoor.Syn
open Go.RowKit Go.Shelf YtocdckniokhbbaaGreatDoorW.PrintWords YtocdckniokhbbaaGreatDoorW.PrintLast YtocdckniokhbbaaGreatDoorW.PrintMore CharB SpanA FigD LexA LexF
def opS (L:List (List UInt8 × Int)):List Wd→Option (Int × List Wd)
  | w :: r=>if w.1 == 5 then(L.find? (fun o=>o.1 == w.2.1)).map fun o=>(o.2,r)else none
  | []=>none
theorem qk19 (k:Nat) (r:List Wd):opOf k r=opS (qd2 k) r:=by cases r<;>rfl
theorem qj19 (r:List Wd):opS [] r=none:=by
  cases r with
  | nil=>rfl
  | cons w r=>simp [opS]
theorem opS_no {q:List UInt8 × Int} {L:List (List UInt8 × Int)} {r:List Wd} (h:takeW 5 q.1 r=none):opS (q :: L) r=opS L r:=by
  cases r with
  | nil=>rfl
  | cons w r=>
    simp only [opS];by_cases h5:w.1=5
    · rw [if_pos (by simp [h5]),if_pos (by simp [h5]),List.find?_cons_of_neg];intro he;have he:q.1=w.2.1:=by simpa using he
      rw [take_of r h5 he.symm]at h
      cases h
    · rw [if_neg (by simp [h5]),if_neg (by simp [h5])]
theorem qi19 {q:List UInt8 × Int} {L:List (List UInt8 × Int)} {r r1:List Wd} (h:takeW 5 q.1 r=some r1):opS (q :: L) r=some (q.2,r1):=by
  obtain⟨w,rfl,h5,hs⟩:=qg1 h;simp only [opS];rw [if_pos (by simp [h5]),List.find?_cons_of_pos (by simp [hs])];rfl
theorem qq7:∀ (L:List (List UInt8 × Int)) (i:Nat) (q:List UInt8 × Int),L[i]?=some q→(qs4 L)[i*2]?=some (Ac (ba q.1))∧(qs4 L)[i*2+1]?=some (Aa Ab q.2)
  | [],i,q,h=>by simp at h
  | a :: L,0,q,h=>by simp at h;subst h;simp [qs4]
  | a :: L,i+1,q,h=>by
    have:=qq7 L i q (by simpa using h);simp only [qs4,List.flatMap_cons]at this ⊢;rw [show(i+1)*2=i*2+2 by omega];exact this
structure Core (p:Nat) (A:Option Addr) (cap:Nat) (l:List Wd) (w:World) (eb:Nat) (k:Nat) (F:Nat→Prop) (cs:List Value) (x:Ex) (r:List Wd) (W:World):Prop where
  box:W.heap[eb]?=some (Af cs.toArray 28 (0,0))
  rep:RepE F W x cs
  bnd:∀ k,F k→w.heap.size+2<k∧k<W.heap.size∧k≠eb
  par:PB p A cap l r W
  fr:Fr p w.heap.size w W
  res:W.heap[w.heap.size+1+1]?=some (Af #[Aa Ab 0,Ac ⟨#[]⟩,Aa Ab 0,Aa Ab 0,Ae false,Ad none 0 0,Ad none 0 0] 28 (0,0))
  pbox:W.heap[w.heap.size]?=some (Af #[qv p] 60 (0,0))
  nbox:W.heap[w.heap.size+1]?=some (Af #[Aa Ab (k:Int)] 3 (0,0))
theorem Core.below {p:Nat} {A:Option Addr} {cap:Nat} {l:List Wd} {w:World} {eb k:Nat} {F:Nat→Prop} {cs:List Value} {x:Ex} {r:List Wd} {W W':World} (h:Core p A cap l w eb k F cs x r W) (hp:p<w.heap.size) (hb:Below W.heap.size W W'):Core p A cap l w eb k F cs x r W':=
  ⟨(hb.block _ (An.1 h.box).1).trans h.box,h.rep.keeps (Keeps.of_below hb),fun k hk=>by have:=h.bnd k hk;have:=hb.size;omega,h.par.below hb,h.fr.below (by have:=(An.1 h.pbox).1;exact Ag _) (Ah hp) hb,
   (hb.block _ (An.1 h.res).1).trans h.res,(hb.block _ (An.1 h.pbox).1).trans h.pbox,(hb.block _ (An.1 h.nbox).1).trans h.nbox⟩
theorem Core.drewN {p:Nat} {A:Option Addr} {cap:Nat} {l:List Wd} {w:World} {eb k:Nat} {F:Nat→Prop} {cs:List Value} {x:Ex} {r:List Wd} {W:World} (h:Core p A cap l w eb k F cs x r W) (m:Nat):Core p A cap l w eb k F cs x r (W.drewN m):=
  ⟨h.box,h.rep.drewN m,h.bnd,h.par.drewN m,h.fr.drewN m,h.res,h.pbox,h.nbox⟩
theorem Core.drew {p:Nat} {A:Option Addr} {cap:Nat} {l:List Wd} {w:World} {eb k:Nat} {F:Nat→Prop} {cs:List Value} {x:Ex} {r:List Wd} {W:World} (h:Core p A cap l w eb k F cs x r W):Core p A cap l w eb k F cs x r W.drew:=
  ⟨h.box,RepE.drew h.rep,h.bnd,h.par.drew,h.fr.drew,h.res,h.pbox,h.nbox⟩
theorem Core.call {p:Nat} {A:Option Addr} {cap:Nat} {l:List Wd} {w:World} {eb k:Nat} {F:Nat→Prop} {cs:List Value} {x:Ex} {r r':List Wd} {W W':World} (h:Core p A cap l w eb k F cs x r W) (hp:p<w.heap.size) (heb:w.heap.size+2<eb) (hP:PB p A cap l r' W') (hf:Fr p W.heap.size W W'):Core p A cap l w eb k F cs x r' W':=
  ⟨Fr.get hf h.box (by omega),h.rep.keeps (Keeps.of_fr hf (Ag _) (fun k hk=>Ah (h.bnd k hk).1) (by omega)),fun k hk=>by have:=h.bnd k hk;have:=hf.1.size;omega,hP,h.fr.chain hf (Ah (An.1 h.pbox).1) (Ah hp),Fr.get hf h.res (by omega),Fr.get hf h.pbox (by omega),Fr.get hf h.nbox (by omega)⟩
theorem qn13 {p:Nat} {A:Option Addr} {cap:Nat} {l r0:List Wd} {w:World} {eb k:Nat} {F F3:Nat→Prop} {op:Int} {s:ByteArray} {d t:Int} {b:Bool} {A1:Option Addr} {n1 c1:Nat} {A2:Option Addr} {n2 c2:Nat} {op':Int} {s':ByteArray} {d' t':Int} {b':Bool} {A1':Option Addr} {n1' c1':Nat} {A2':Option Addr} {n2' c2':Nat} {x x2:Ex} {r2:List Wd} {w5:World} (ov:Int)
    (hW:PB p A cap l r0 w) (hp:p<w.heap.size) (heb:w.heap.size+2<eb) (h:Core p A cap l w eb k F [Aa Ab op,Ac s,Aa Ab d,Aa Ab t,Ae b,Ad A1 n1 c1,Ad A2 n2 c2] x r2 w5) (h3:RepE F3 w5 x2 [Aa Ab op',Ac s',Aa Ab d',Aa Ab t',Ae b',Ad A1' n1' c1',Ad A2' n2' c2']) (hb3:∀ k,F3 k→eb<k∧k<w5.heap.size) :
    Core p A cap l w eb k (fun k=>F k∨F3 k∨k=w5.heap.size) [Aa Ab ov,Ac ⟨#[]⟩,Aa Ab 0,Aa Ab 0,Ae false,Ad (some ⟨w5.heap.size,0,none⟩) 2 2,Ad none 0 0] (mkW ov [x,x2]) r2 (At (At (At (At (At (At (At (w5.alloc (Af #[Aa Ab op,Ac s,Aa Ab d,Aa Ab t,Ae b,Ad A1 n1 c1,Ad A2 n2 c2,Aa Ab op',Ac s',Aa Ab d',Aa Ab t',Ae b',Ad A1' n1' c1',Ad A2' n2' c2'] 28)) ⟨eb,0,none⟩ (Aa Ab ov)) ⟨eb,1,none⟩ (Ac ⟨#[]⟩)) ⟨eb,2,none⟩ (Aa Ab 0)) ⟨eb,3,none⟩ (Aa Ab 0)) ⟨eb,4,none⟩ (Ae false)) ⟨eb,5,none⟩ (Ad (some ⟨w5.heap.size,0,none⟩) 2 2)) ⟨eb,6,none⟩ (Ad none 0 0)):=by
  have hebL:=(An.1 h.box).1;have hresL:=(An.1 h.res).1;have h2:=RepE.two ov 28 h.rep h3
  have hnG:¬ (F eb∨F3 eb∨eb=w5.heap.size):=by
    rintro(hk | hk | hk)
    · exact(h.bnd eb hk).2.2 rfl
    · have:=hb3 eb hk;omega
    · omega
  have hq4:=qb h.box (Af #[Aa Ab op,Ac s,Aa Ab d,Aa Ab t,Ae b,Ad A1 n1 c1,Ad A2 n2 c2,Aa Ab op',Ac s',Aa Ab d',Aa Ab t',Ae b',Ad A1' n1' c1',Ad A2' n2' c2'] 28);have hres5:=qb h.res (Af #[Aa Ab op,Ac s,Aa Ab d,Aa Ab t,Ae b,Ad A1 n1 c1,Ad A2 n2 c2,Aa Ab op',Ac s',Aa Ab d',Aa Ab t',Ae b',Ad A1' n1' c1',Ad A2' n2' c2'] 28);have hpb5:=qb h.pbox (Af #[Aa Ab op,Ac s,Aa Ab d,Aa Ab t,Ae b,Ad A1 n1 c1,Ad A2 n2 c2,Aa Ab op',Ac s',Aa Ab d',Aa Ab t',Ae b',Ad A1' n1' c1',Ad A2' n2' c2'] 28);have hnb5:=qb h.nbox (Af #[Aa Ab op,Ac s,Aa Ab d,Aa Ab t,Ae b,Ad A1 n1 c1,Ad A2 n2 c2,Aa Ab op',Ac s',Aa Ab d',Aa Ab t',Ae b',Ad A1' n1' c1',Ad A2' n2' c2'] 28);have hP5:=h.par.below ((Ao w5.heap.size w5).alloc (Ag _) (Af #[Aa Ab op,Ac s,Aa Ab d,Aa Ab t,Ae b,Ad A1 n1 c1,Ad A2 n2 c2,Aa Ab op',Ac s',Aa Ab d',Aa Ab t',Ae b',Ad A1' n1' c1',Ad A2' n2' c2'] 28));have HP:=Aside0.mk hp;have hF6:=(Fr.set (Fr.set (Fr.set (Fr.set (Fr.set (Fr.set (Fr.set (Fr.alloc h.fr (Ag _) (Ah HP.out) (Af #[Aa Ab op,Ac s,Aa Ab d,Aa Ab t,Ae b,Ad A1 n1 c1,Ad A2 n2 c2,Aa Ab op',Ac s',Aa Ab d',Aa Ab t',Ae b',Ad A1' n1' c1',Ad A2' n2' c2'] 28)) (g:=eb) (.inr (by omega)) (Ah HP.out) 0 (Aa Ab ov)) (g:=eb) (.inr (by omega)) (Ah HP.out) 1 (Ac ⟨#[]⟩)) (g:=eb) (.inr (by omega)) (Ah HP.out) 2 (Aa Ab 0)) (g:=eb) (.inr (by omega)) (Ah HP.out) 3 (Aa Ab 0)) (g:=eb) (.inr (by omega)) (Ah HP.out) 4 (Ae false)) (g:=eb) (.inr (by omega)) (Ah HP.out) 5 (Ad (some ⟨w5.heap.size,0,none⟩) 2 2)) (g:=eb) (.inr (by omega)) (Ah HP.out) 6 (Ad none 0 0));refine⟨?_,?_,?_,?_,hF6,?_,?_,?_⟩
  · exact(qk (cs':= #[Aa Ab ov,Ac ⟨#[]⟩,Aa Ab 0,Aa Ab 0,Ae false,Ad (some ⟨w5.heap.size,0,none⟩) 2 2,Ad none 0 0]) (qk (cs':= #[Aa Ab ov,Ac ⟨#[]⟩,Aa Ab 0,Aa Ab 0,Ae false,Ad (some ⟨w5.heap.size,0,none⟩) 2 2,Ad A2 n2 c2]) (qk (cs':= #[Aa Ab ov,Ac ⟨#[]⟩,Aa Ab 0,Aa Ab 0,Ae false,Ad A1 n1 c1,Ad A2 n2 c2]) (qk (cs':= #[Aa Ab ov,Ac ⟨#[]⟩,Aa Ab 0,Aa Ab 0,Ae b,Ad A1 n1 c1,Ad A2 n2 c2]) (qk (cs':= #[Aa Ab ov,Ac ⟨#[]⟩,Aa Ab 0,Aa Ab t,Ae b,Ad A1 n1 c1,Ad A2 n2 c2]) (qk (cs':= #[Aa Ab ov,Ac ⟨#[]⟩,Aa Ab d,Aa Ab t,Ae b,Ad A1 n1 c1,Ad A2 n2 c2]) (qk (cs':= #[Aa Ab ov,Ac s,Aa Ab d,Aa Ab t,Ae b,Ad A1 n1 c1,Ad A2 n2 c2]) hq4 0 (Aa Ab ov) rfl) 1 (Ac ⟨#[]⟩) rfl) 2 (Aa Ab 0) rfl) 3 (Aa Ab 0) rfl) 4 (Ae false) rfl) 5 (Ad (some ⟨w5.heap.size,0,none⟩) 2 2) rfl) 6 (Ad none 0 0) rfl)
  · exact(RepE.keeps (Keeps.of_set _ 6 (Ad none 0 0) (hnG)) (RepE.keeps (Keeps.of_set _ 5 (Ad (some ⟨w5.heap.size,0,none⟩) 2 2) (hnG)) (RepE.keeps (Keeps.of_set _ 4 (Ae false) (hnG)) (RepE.keeps (Keeps.of_set _ 3 (Aa Ab 0) (hnG)) (RepE.keeps (Keeps.of_set _ 2 (Aa Ab 0) (hnG)) (RepE.keeps (Keeps.of_set _ 1 (Ac ⟨#[]⟩) (hnG)) (RepE.keeps (Keeps.of_set _ 0 (Aa Ab ov) (hnG)) h2)))))))
  · intro k hk;simp only [qf1,qo]
    rcases hk with hk | hk | rfl
    · have:=h.bnd k hk;omega
    · have:=hb3 k hk;omega
    · omega
  · refine hW.move hF6 ?_ h.par.suf;rw [PB.sets7 (by omega)];exact hP5.blk
  · rw [PB.sets7 (by omega)];exact hres5
  · rw [PB.sets7 (by omega)];exact hpb5
  · rw [PB.sets7 (by omega)];exact hnb5
def BB (p:Nat) (A:Option Addr) (cap:Nat) (l:List Wd) (w:World) (eb:Nat) (R:Option (Ex × List Wd)) (k:Nat) (more:Bool) (kq:Nat) (W:World):Prop:=
  ∃ F op s d t b A1 n1 c1 A2 n2 c2 x r,Core p A cap l w eb k F [Aa Ab op,Ac s,Aa Ab d,Aa Ab t,Ae b,Ad A1 n1 c1,Ad A2 n2 c2] x r W∧((more=true∧qx6 kq k x r=R∧80*r.length+20≤kq)∨(more=false∧R=some (x,r)))
end Go.Proofs.YtocdckniokhbbaaGreatDoor.Syn
