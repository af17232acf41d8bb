import Derived.Test.YtocdckniokhbbaaGreatDoorZkZz
import Derived.Test.YtocdckniokhbbaaGreatDoorZkFc
import Derived.Test.YtocdckniokhbbaaGreatDoorZkFigD
import Derived.Test.YtocdckniokhbbaaGreatDoorZkSynV
import Derived.Test.YtocdckniokhbbaaGreatDoorZkChkD
import Derived.Deep.DeepCutAuto
import Derived.Test.YtocdckniokhbbaaGreatDoorZkSynT
import Derived.Defers
import Derived.Recover
set_option linter.unusedVariables false
set_option linter.unusedSimpArgs false
open Go.Value renaming int→Aa,bool→Ae,string→Ac,slice→Ad
open Go.IntKind renaming i64→Ab
open Go.Proofs.Tryz renaming prog→Aj,ntmps17→A9,func17→Bb,underlying42→AO
open Nat renaming le_refl→Ag
open Go.RowKit.Below renaming refl→Ao,alloc→AD
open Go.ByteArray renaming toList_eq→Aq
open Except renaming bind→Bl
open Go.Obj renaming cells→Af
open Go.Lib renaming cell_of_heap→Ai
open List renaming getElem?_eq_getElem→AG
open Option renaming some→Ay
open Bool renaming true_and→AL,false_and→AN
open Go.World renaming setCell→At
set_option maxHeartbeats 8000000
set_option maxRecDepth 100000
namespace Go.Proofs.YtocdckniokhbbaaGreatDoor.Syn
open Go.RowKit Go.Shelf YtocdckniokhbbaaGreatDoorW.PrintWords YtocdckniokhbbaaGreatDoorW.PrintLast YtocdckniokhbbaaGreatDoorW.PrintMore CharB SpanA FigD LexA LexF
def qj17 (o:Option (Int × Int × Bool × Int)):Value:=match o with
 | some f=> .tuple #[.agg #[Aa Ab f.1,Aa Ab f.2.1,Ae f.2.2.1,Aa Ab f.2.2.2],Ae true]
 | none=> .tuple #[.agg #[Aa Ab 0,Aa Ab 0,Ae false,Aa Ab 0],Ae false]
theorem func_0 (w:World):Calls Aj 17 #[Ac ⟨#[108,97,115,116]⟩] w fun e w'=>e= .returned (.tuple #[.agg #[Aa Ab 0,Aa Ab 0,Ae false,Aa Ab 3],Ae true])∧Below w.heap.size w w':=by
 go_enter Bb,A9;go_wp2_with fail
 refine bodyPost_ret (qd1 rfl _ _ w.heap.size 42 #[Aa Ab 0,Aa Ab 0,Ae false,Aa Ab 3] (0,0) _ rfl zz AO rfl zm) rfl ?_;exact⟨rfl,AD (Ao w.heap.size w) (Ag _) _⟩
theorem func_1 (w:World):Calls Aj 17 #[Ac ⟨#[112,111,115,105,116,105,111,110]⟩] w fun e w'=>e= .returned (.tuple #[.agg #[Aa Ab 0,Aa Ab 0,Ae false,Aa Ab 3],Ae true])∧Below w.heap.size w w':=by
 go_enter Bb,A9;go_wp2_with fail
 refine bodyPost_ret (qd1 rfl _ _ w.heap.size 42 #[Aa Ab 0,Aa Ab 0,Ae false,Aa Ab 3] (0,0) _ rfl zz AO rfl zm) rfl ?_;exact⟨rfl,AD (Ao w.heap.size w) (Ag _) _⟩
theorem func_2 (w:World):Calls Aj 17 #[Ac ⟨#[99,111,117,110,116]⟩] w fun e w'=>e= .returned (.tuple #[.agg #[Aa Ab 1,Aa Ab 1,Ae true,Aa Ab 3],Ae true])∧Below w.heap.size w w':=by
 go_enter Bb,A9;go_wp2_with fail
 refine bodyPost_ret (qd1 rfl _ _ w.heap.size 42 #[Aa Ab 1,Aa Ab 1,Ae true,Aa Ab 3] (0,0) _ rfl zz AO rfl zm) rfl ?_;exact⟨rfl,AD (Ao w.heap.size w) (Ag _) _⟩
theorem func_3 (w:World):Calls Aj 17 #[Ac ⟨#[115,117,109]⟩] w fun e w'=>e= .returned (.tuple #[.agg #[Aa Ab 1,Aa Ab 1,Ae true,Aa Ab 3],Ae true])∧Below w.heap.size w w':=by
 go_enter Bb,A9;go_wp2_with fail
 refine bodyPost_ret (qd1 rfl _ _ w.heap.size 42 #[Aa Ab 1,Aa Ab 1,Ae true,Aa Ab 3] (0,0) _ rfl zz AO rfl zm) rfl ?_;exact⟨rfl,AD (Ao w.heap.size w) (Ag _) _⟩
theorem func_4 (w:World):Calls Aj 17 #[Ac ⟨#[108,111,99,97,108,45,110,97,109,101]⟩] w fun e w'=>e= .returned (.tuple #[.agg #[Aa Ab 0,Aa Ab 1,Ae true,Aa Ab 4],Ae true])∧Below w.heap.size w w':=by
 go_enter Bb,A9;go_wp2_with fail
 refine bodyPost_ret (qd1 rfl _ _ w.heap.size 42 #[Aa Ab 0,Aa Ab 1,Ae true,Aa Ab 4] (0,0) _ rfl zz AO rfl zm) rfl ?_;exact⟨rfl,AD (Ao w.heap.size w) (Ag _) _⟩
theorem func_5 (w:World):Calls Aj 17 #[Ac ⟨#[110,97,109,101]⟩] w fun e w'=>e= .returned (.tuple #[.agg #[Aa Ab 0,Aa Ab 1,Ae true,Aa Ab 4],Ae true])∧Below w.heap.size w w':=by
 go_enter Bb,A9;go_wp2_with fail
 refine bodyPost_ret (qd1 rfl _ _ w.heap.size 42 #[Aa Ab 0,Aa Ab 1,Ae true,Aa Ab 4] (0,0) _ rfl zz AO rfl zm) rfl ?_;exact⟨rfl,AD (Ao w.heap.size w) (Ag _) _⟩
theorem func_6 (w:World):Calls Aj 17 #[Ac ⟨#[110,97,109,101,115,112,97,99,101,45,117,114,105]⟩] w fun e w'=>e= .returned (.tuple #[.agg #[Aa Ab 0,Aa Ab 1,Ae true,Aa Ab 4],Ae true])∧Below w.heap.size w w':=by
 go_enter Bb,A9;go_wp2_with fail
 refine bodyPost_ret (qd1 rfl _ _ w.heap.size 42 #[Aa Ab 0,Aa Ab 1,Ae true,Aa Ab 4] (0,0) _ rfl zz AO rfl zm) rfl ?_;exact⟨rfl,AD (Ao w.heap.size w) (Ag _) _⟩
theorem func_7 (w:World):Calls Aj 17 #[Ac ⟨#[115,116,114,105,110,103]⟩] w fun e w'=>e= .returned (.tuple #[.agg #[Aa Ab 0,Aa Ab 1,Ae false,Aa Ab 4],Ae true])∧Below w.heap.size w w':=by
 go_enter Bb,A9;go_wp2_with fail
 refine bodyPost_ret (qd1 rfl _ _ w.heap.size 42 #[Aa Ab 0,Aa Ab 1,Ae false,Aa Ab 4] (0,0) _ rfl zz AO rfl zm) rfl ?_;exact⟨rfl,AD (Ao w.heap.size w) (Ag _) _⟩
theorem func_8 (w:World):Calls Aj 17 #[Ac ⟨#[110,111,114,109,97,108,105,122,101,45,115,112,97,99,101]⟩] w fun e w'=>e= .returned (.tuple #[.agg #[Aa Ab 0,Aa Ab 1,Ae false,Aa Ab 4],Ae true])∧Below w.heap.size w w':=by
 go_enter Bb,A9;go_wp2_with fail
 refine bodyPost_ret (qd1 rfl _ _ w.heap.size 42 #[Aa Ab 0,Aa Ab 1,Ae false,Aa Ab 4] (0,0) _ rfl zz AO rfl zm) rfl ?_;exact⟨rfl,AD (Ao w.heap.size w) (Ag _) _⟩
theorem func_9 (w:World):Calls Aj 17 #[Ac ⟨#[99,111,110,99,97,116]⟩] w fun e w'=>e= .returned (.tuple #[.agg #[Aa Ab 2,Aa Ab 120,Ae false,Aa Ab 4],Ae true])∧Below w.heap.size w w':=by
 go_enter Bb,A9;go_wp2_with fail
 refine bodyPost_ret (qd1 rfl _ _ w.heap.size 42 #[Aa Ab 2,Aa Ab 120,Ae false,Aa Ab 4] (0,0) _ rfl zz AO rfl zm) rfl ?_;exact⟨rfl,AD (Ao w.heap.size w) (Ag _) _⟩
theorem func_10 (w:World):Calls Aj 17 #[Ac ⟨#[115,116,97,114,116,115,45,119,105,116,104]⟩] w fun e w'=>e= .returned (.tuple #[.agg #[Aa Ab 2,Aa Ab 2,Ae false,Aa Ab 2],Ae true])∧Below w.heap.size w w':=by
 go_enter Bb,A9;go_wp2_with fail
 refine bodyPost_ret (qd1 rfl _ _ w.heap.size 42 #[Aa Ab 2,Aa Ab 2,Ae false,Aa Ab 2] (0,0) _ rfl zz AO rfl zm) rfl ?_;exact⟨rfl,AD (Ao w.heap.size w) (Ag _) _⟩
theorem func_11 (w:World):Calls Aj 17 #[Ac ⟨#[99,111,110,116,97,105,110,115]⟩] w fun e w'=>e= .returned (.tuple #[.agg #[Aa Ab 2,Aa Ab 2,Ae false,Aa Ab 2],Ae true])∧Below w.heap.size w w':=by
 go_enter Bb,A9;go_wp2_with fail
 refine bodyPost_ret (qd1 rfl _ _ w.heap.size 42 #[Aa Ab 2,Aa Ab 2,Ae false,Aa Ab 2] (0,0) _ rfl zz AO rfl zm) rfl ?_;exact⟨rfl,AD (Ao w.heap.size w) (Ag _) _⟩
theorem func_12 (w:World):Calls Aj 17 #[Ac ⟨#[115,117,98,115,116,114,105,110,103,45,98,101,102,111,114,101]⟩] w fun e w'=>e= .returned (.tuple #[.agg #[Aa Ab 2,Aa Ab 2,Ae false,Aa Ab 4],Ae true])∧Below w.heap.size w w':=by
 go_enter Bb,A9;go_wp2_with fail
 refine bodyPost_ret (qd1 rfl _ _ w.heap.size 42 #[Aa Ab 2,Aa Ab 2,Ae false,Aa Ab 4] (0,0) _ rfl zz AO rfl zm) rfl ?_;exact⟨rfl,AD (Ao w.heap.size w) (Ag _) _⟩
theorem func_13 (w:World):Calls Aj 17 #[Ac ⟨#[115,117,98,115,116,114,105,110,103,45,97,102,116,101,114]⟩] w fun e w'=>e= .returned (.tuple #[.agg #[Aa Ab 2,Aa Ab 2,Ae false,Aa Ab 4],Ae true])∧Below w.heap.size w w':=by
 go_enter Bb,A9;go_wp2_with fail
 refine bodyPost_ret (qd1 rfl _ _ w.heap.size 42 #[Aa Ab 2,Aa Ab 2,Ae false,Aa Ab 4] (0,0) _ rfl zz AO rfl zm) rfl ?_;exact⟨rfl,AD (Ao w.heap.size w) (Ag _) _⟩
theorem func_14 (w:World):Calls Aj 17 #[Ac ⟨#[115,117,98,115,116,114,105,110,103]⟩] w fun e w'=>e= .returned (.tuple #[.agg #[Aa Ab 2,Aa Ab 3,Ae false,Aa Ab 4],Ae true])∧Below w.heap.size w w':=by
 go_enter Bb,A9;go_wp2_with fail
 refine bodyPost_ret (qd1 rfl _ _ w.heap.size 42 #[Aa Ab 2,Aa Ab 3,Ae false,Aa Ab 4] (0,0) _ rfl zz AO rfl zm) rfl ?_;exact⟨rfl,AD (Ao w.heap.size w) (Ag _) _⟩
theorem func_15 (w:World):Calls Aj 17 #[Ac ⟨#[116,114,97,110,115,108,97,116,101]⟩] w fun e w'=>e= .returned (.tuple #[.agg #[Aa Ab 3,Aa Ab 3,Ae false,Aa Ab 4],Ae true])∧Below w.heap.size w w':=by
 go_enter Bb,A9;go_wp2_with fail
 refine bodyPost_ret (qd1 rfl _ _ w.heap.size 42 #[Aa Ab 3,Aa Ab 3,Ae false,Aa Ab 4] (0,0) _ rfl zz AO rfl zm) rfl ?_;exact⟨rfl,AD (Ao w.heap.size w) (Ag _) _⟩
theorem func_16 (w:World):Calls Aj 17 #[Ac ⟨#[115,116,114,105,110,103,45,108,101,110,103,116,104]⟩] w fun e w'=>e= .returned (.tuple #[.agg #[Aa Ab 0,Aa Ab 1,Ae false,Aa Ab 3],Ae true])∧Below w.heap.size w w':=by
 go_enter Bb,A9;go_wp2_with fail
 refine bodyPost_ret (qd1 rfl _ _ w.heap.size 42 #[Aa Ab 0,Aa Ab 1,Ae false,Aa Ab 3] (0,0) _ rfl zz AO rfl zm) rfl ?_;exact⟨rfl,AD (Ao w.heap.size w) (Ag _) _⟩
theorem func_17 (w:World):Calls Aj 17 #[Ac ⟨#[98,111,111,108,101,97,110]⟩] w fun e w'=>e= .returned (.tuple #[.agg #[Aa Ab 1,Aa Ab 1,Ae false,Aa Ab 2],Ae true])∧Below w.heap.size w w':=by
 go_enter Bb,A9;go_wp2_with fail
 refine bodyPost_ret (qd1 rfl _ _ w.heap.size 42 #[Aa Ab 1,Aa Ab 1,Ae false,Aa Ab 2] (0,0) _ rfl zz AO rfl zm) rfl ?_;exact⟨rfl,AD (Ao w.heap.size w) (Ag _) _⟩
theorem func_18 (w:World):Calls Aj 17 #[Ac ⟨#[110,111,116]⟩] w fun e w'=>e= .returned (.tuple #[.agg #[Aa Ab 1,Aa Ab 1,Ae false,Aa Ab 2],Ae true])∧Below w.heap.size w w':=by
 go_enter Bb,A9;go_wp2_with fail
 refine bodyPost_ret (qd1 rfl _ _ w.heap.size 42 #[Aa Ab 1,Aa Ab 1,Ae false,Aa Ab 2] (0,0) _ rfl zz AO rfl zm) rfl ?_;exact⟨rfl,AD (Ao w.heap.size w) (Ag _) _⟩
theorem func_19 (w:World):Calls Aj 17 #[Ac ⟨#[108,97,110,103]⟩] w fun e w'=>e= .returned (.tuple #[.agg #[Aa Ab 1,Aa Ab 1,Ae false,Aa Ab 2],Ae true])∧Below w.heap.size w w':=by
 go_enter Bb,A9;go_wp2_with fail
 refine bodyPost_ret (qd1 rfl _ _ w.heap.size 42 #[Aa Ab 1,Aa Ab 1,Ae false,Aa Ab 2] (0,0) _ rfl zz AO rfl zm) rfl ?_;exact⟨rfl,AD (Ao w.heap.size w) (Ag _) _⟩
theorem func_20 (w:World):Calls Aj 17 #[Ac ⟨#[116,114,117,101]⟩] w fun e w'=>e= .returned (.tuple #[.agg #[Aa Ab 0,Aa Ab 0,Ae false,Aa Ab 2],Ae true])∧Below w.heap.size w w':=by
 go_enter Bb,A9;go_wp2_with fail
 refine bodyPost_ret (qd1 rfl _ _ w.heap.size 42 #[Aa Ab 0,Aa Ab 0,Ae false,Aa Ab 2] (0,0) _ rfl zz AO rfl zm) rfl ?_;exact⟨rfl,AD (Ao w.heap.size w) (Ag _) _⟩
theorem func_21 (w:World):Calls Aj 17 #[Ac ⟨#[102,97,108,115,101]⟩] w fun e w'=>e= .returned (.tuple #[.agg #[Aa Ab 0,Aa Ab 0,Ae false,Aa Ab 2],Ae true])∧Below w.heap.size w w':=by
 go_enter Bb,A9;go_wp2_with fail
 refine bodyPost_ret (qd1 rfl _ _ w.heap.size 42 #[Aa Ab 0,Aa Ab 0,Ae false,Aa Ab 2] (0,0) _ rfl zz AO rfl zm) rfl ?_;exact⟨rfl,AD (Ao w.heap.size w) (Ag _) _⟩
theorem func_22 (w:World):Calls Aj 17 #[Ac ⟨#[110,117,109,98,101,114]⟩] w fun e w'=>e= .returned (.tuple #[.agg #[Aa Ab 0,Aa Ab 1,Ae false,Aa Ab 3],Ae true])∧Below w.heap.size w w':=by
 go_enter Bb,A9;go_wp2_with fail
 refine bodyPost_ret (qd1 rfl _ _ w.heap.size 42 #[Aa Ab 0,Aa Ab 1,Ae false,Aa Ab 3] (0,0) _ rfl zz AO rfl zm) rfl ?_;exact⟨rfl,AD (Ao w.heap.size w) (Ag _) _⟩
theorem func_23 (w:World):Calls Aj 17 #[Ac ⟨#[102,108,111,111,114]⟩] w fun e w'=>e= .returned (.tuple #[.agg #[Aa Ab 1,Aa Ab 1,Ae false,Aa Ab 3],Ae true])∧Below w.heap.size w w':=by
 go_enter Bb,A9;go_wp2_with fail
 refine bodyPost_ret (qd1 rfl _ _ w.heap.size 42 #[Aa Ab 1,Aa Ab 1,Ae false,Aa Ab 3] (0,0) _ rfl zz AO rfl zm) rfl ?_;exact⟨rfl,AD (Ao w.heap.size w) (Ag _) _⟩
theorem func_24 (w:World):Calls Aj 17 #[Ac ⟨#[99,101,105,108,105,110,103]⟩] w fun e w'=>e= .returned (.tuple #[.agg #[Aa Ab 1,Aa Ab 1,Ae false,Aa Ab 3],Ae true])∧Below w.heap.size w w':=by
 go_enter Bb,A9;go_wp2_with fail
 refine bodyPost_ret (qd1 rfl _ _ w.heap.size 42 #[Aa Ab 1,Aa Ab 1,Ae false,Aa Ab 3] (0,0) _ rfl zz AO rfl zm) rfl ?_;exact⟨rfl,AD (Ao w.heap.size w) (Ag _) _⟩
theorem func_25 (w:World):Calls Aj 17 #[Ac ⟨#[114,111,117,110,100]⟩] w fun e w'=>e= .returned (.tuple #[.agg #[Aa Ab 1,Aa Ab 1,Ae false,Aa Ab 3],Ae true])∧Below w.heap.size w w':=by
 go_enter Bb,A9;go_wp2_with fail
 refine bodyPost_ret (qd1 rfl _ _ w.heap.size 42 #[Aa Ab 1,Aa Ab 1,Ae false,Aa Ab 3] (0,0) _ rfl zz AO rfl zm) rfl ?_;exact⟨rfl,AD (Ao w.heap.size w) (Ag _) _⟩
theorem qm20 (s:ByteArray) (w:World) (h0:s.toList≠ [108,97,115,116]) (h1:s.toList≠ [112,111,115,105,116,105,111,110]) (h2:s.toList≠ [99,111,117,110,116]) (h3:s.toList≠ [115,117,109]) (h4:s.toList≠ [108,111,99,97,108,45,110,97,109,101]) (h5:s.toList≠ [110,97,109,101]) (h6:s.toList≠ [110,97,109,101,115,112,97,99,101,45,117,114,105]) (h7:s.toList≠ [115,116,114,105,110,103]) (h8:s.toList≠ [110,111,114,109,97,108,105,122,101,45,115,112,97,99,101]) (h9:s.toList≠ [99,111,110,99,97,116]) (h10:s.toList≠ [115,116,97,114,116,115,45,119,105,116,104]) (h11:s.toList≠ [99,111,110,116,97,105,110,115]) (h12:s.toList≠ [115,117,98,115,116,114,105,110,103,45,98,101,102,111,114,101]) (h13:s.toList≠ [115,117,98,115,116,114,105,110,103,45,97,102,116,101,114]) (h14:s.toList≠ [115,117,98,115,116,114,105,110,103]) (h15:s.toList≠ [116,114,97,110,115,108,97,116,101]) (h16:s.toList≠ [115,116,114,105,110,103,45,108,101,110,103,116,104]) (h17:s.toList≠ [98,111,111,108,101,97,110]) (h18:s.toList≠ [110,111,116]) (h19:s.toList≠ [108,97,110,103]) (h20:s.toList≠ [116,114,117,101]) (h21:s.toList≠ [102,97,108,115,101]) (h22:s.toList≠ [110,117,109,98,101,114]) (h23:s.toList≠ [102,108,111,111,114]) (h24:s.toList≠ [99,101,105,108,105,110,103]) (h25:s.toList≠ [114,111,117,110,100]):Calls Aj 17 #[Ac s] w fun e w'=>e= .returned (.tuple #[.agg #[Aa Ab 0,Aa Ab 0,Ae false,Aa Ab 0],Ae false])∧Below w.heap.size w w':=by
 have g0:=beq_eq_false_iff_ne.mpr h0;have g1:=beq_eq_false_iff_ne.mpr h1;have g2:=beq_eq_false_iff_ne.mpr h2;have g3:=beq_eq_false_iff_ne.mpr h3;have g4:=beq_eq_false_iff_ne.mpr h4;have g5:=beq_eq_false_iff_ne.mpr h5;have g6:=beq_eq_false_iff_ne.mpr h6;have g7:=beq_eq_false_iff_ne.mpr h7;have g8:=beq_eq_false_iff_ne.mpr h8;have g9:=beq_eq_false_iff_ne.mpr h9;have g10:=beq_eq_false_iff_ne.mpr h10;have g11:=beq_eq_false_iff_ne.mpr h11;have g12:=beq_eq_false_iff_ne.mpr h12;have g13:=beq_eq_false_iff_ne.mpr h13;have g14:=beq_eq_false_iff_ne.mpr h14;have g15:=beq_eq_false_iff_ne.mpr h15;have g16:=beq_eq_false_iff_ne.mpr h16;have g17:=beq_eq_false_iff_ne.mpr h17;have g18:=beq_eq_false_iff_ne.mpr h18;have g19:=beq_eq_false_iff_ne.mpr h19;have g20:=beq_eq_false_iff_ne.mpr h20;have g21:=beq_eq_false_iff_ne.mpr h21;have g22:=beq_eq_false_iff_ne.mpr h22;have g23:=beq_eq_false_iff_ne.mpr h23;have g24:=beq_eq_false_iff_ne.mpr h24;have g25:=beq_eq_false_iff_ne.mpr h25;clear h0 h1 h2 h3 h4 h5 h6 h7 h8 h9 h10 h11 h12 h13 h14 h15 h16 h17 h18 h19 h20 h21 h22 h23 h24 h25;go_enter Bb,A9;go_wp2_with fail
 refine bodyPost_ret (qd1 rfl _ _ w.heap.size 42 #[Aa Ab 0,Aa Ab 0,Ae false,Aa Ab 0] (0,0) _ rfl zz AO rfl zm) rfl ?_;exact⟨rfl,AD (Ao w.heap.size w) (Ag _) _⟩
theorem qj13 (s:ByteArray) (w:World):Calls Aj 17 #[Ac s] w fun e w'=>e= .returned (qj17 (ql2 s.toList))∧Below w.heap.size w w':=by
 by_cases h0:s.toList= [108,97,115,116]
 ·have e:s=⟨#[108,97,115,116]⟩:=by rw [← qt1 s,← Aq,h0];rfl
  rw [h0,show ql2 [108,97,115,116]=some (0,0,false,3)from rfl,e];exact func_0 w
 by_cases h1:s.toList= [112,111,115,105,116,105,111,110]
 ·have e:s=⟨#[112,111,115,105,116,105,111,110]⟩:=by rw [← qt1 s,← Aq,h1];rfl
  rw [h1,show ql2 [112,111,115,105,116,105,111,110]=some (0,0,false,3)from rfl,e];exact func_1 w
 by_cases h2:s.toList= [99,111,117,110,116]
 ·have e:s=⟨#[99,111,117,110,116]⟩:=by rw [← qt1 s,← Aq,h2];rfl
  rw [h2,show ql2 [99,111,117,110,116]=some (1,1,true,3)from rfl,e];exact func_2 w
 by_cases h3:s.toList= [115,117,109]
 ·have e:s=⟨#[115,117,109]⟩:=by rw [← qt1 s,← Aq,h3];rfl
  rw [h3,show ql2 [115,117,109]=some (1,1,true,3)from rfl,e];exact func_3 w
 by_cases h4:s.toList= [108,111,99,97,108,45,110,97,109,101]
 ·have e:s=⟨#[108,111,99,97,108,45,110,97,109,101]⟩:=by rw [← qt1 s,← Aq,h4];rfl
  rw [h4,show ql2 [108,111,99,97,108,45,110,97,109,101]=some (0,1,true,4)from rfl,e];exact func_4 w
 by_cases h5:s.toList= [110,97,109,101]
 ·have e:s=⟨#[110,97,109,101]⟩:=by rw [← qt1 s,← Aq,h5];rfl
  rw [h5,show ql2 [110,97,109,101]=some (0,1,true,4)from rfl,e];exact func_5 w
 by_cases h6:s.toList= [110,97,109,101,115,112,97,99,101,45,117,114,105]
 ·have e:s=⟨#[110,97,109,101,115,112,97,99,101,45,117,114,105]⟩:=by rw [← qt1 s,← Aq,h6];rfl
  rw [h6,show ql2 [110,97,109,101,115,112,97,99,101,45,117,114,105]=some (0,1,true,4)from rfl,e];exact func_6 w
 by_cases h7:s.toList= [115,116,114,105,110,103]
 ·have e:s=⟨#[115,116,114,105,110,103]⟩:=by rw [← qt1 s,← Aq,h7];rfl
  rw [h7,show ql2 [115,116,114,105,110,103]=some (0,1,false,4)from rfl,e];exact func_7 w
 by_cases h8:s.toList= [110,111,114,109,97,108,105,122,101,45,115,112,97,99,101]
 ·have e:s=⟨#[110,111,114,109,97,108,105,122,101,45,115,112,97,99,101]⟩:=by rw [← qt1 s,← Aq,h8];rfl
  rw [h8,show ql2 [110,111,114,109,97,108,105,122,101,45,115,112,97,99,101]=some (0,1,false,4)from rfl,e];exact func_8 w
 by_cases h9:s.toList= [99,111,110,99,97,116]
 ·have e:s=⟨#[99,111,110,99,97,116]⟩:=by rw [← qt1 s,← Aq,h9];rfl
  rw [h9,show ql2 [99,111,110,99,97,116]=some (2,120,false,4)from rfl,e];exact func_9 w
 by_cases h10:s.toList= [115,116,97,114,116,115,45,119,105,116,104]
 ·have e:s=⟨#[115,116,97,114,116,115,45,119,105,116,104]⟩:=by rw [← qt1 s,← Aq,h10];rfl
  rw [h10,show ql2 [115,116,97,114,116,115,45,119,105,116,104]=some (2,2,false,2)from rfl,e];exact func_10 w
 by_cases h11:s.toList= [99,111,110,116,97,105,110,115]
 ·have e:s=⟨#[99,111,110,116,97,105,110,115]⟩:=by rw [← qt1 s,← Aq,h11];rfl
  rw [h11,show ql2 [99,111,110,116,97,105,110,115]=some (2,2,false,2)from rfl,e];exact func_11 w
 by_cases h12:s.toList= [115,117,98,115,116,114,105,110,103,45,98,101,102,111,114,101]
 ·have e:s=⟨#[115,117,98,115,116,114,105,110,103,45,98,101,102,111,114,101]⟩:=by rw [← qt1 s,← Aq,h12];rfl
  rw [h12,show ql2 [115,117,98,115,116,114,105,110,103,45,98,101,102,111,114,101]=some (2,2,false,4)from rfl,e];exact func_12 w
 by_cases h13:s.toList= [115,117,98,115,116,114,105,110,103,45,97,102,116,101,114]
 ·have e:s=⟨#[115,117,98,115,116,114,105,110,103,45,97,102,116,101,114]⟩:=by rw [← qt1 s,← Aq,h13];rfl
  rw [h13,show ql2 [115,117,98,115,116,114,105,110,103,45,97,102,116,101,114]=some (2,2,false,4)from rfl,e];exact func_13 w
 by_cases h14:s.toList= [115,117,98,115,116,114,105,110,103]
 ·have e:s=⟨#[115,117,98,115,116,114,105,110,103]⟩:=by rw [← qt1 s,← Aq,h14];rfl
  rw [h14,show ql2 [115,117,98,115,116,114,105,110,103]=some (2,3,false,4)from rfl,e];exact func_14 w
 by_cases h15:s.toList= [116,114,97,110,115,108,97,116,101]
 ·have e:s=⟨#[116,114,97,110,115,108,97,116,101]⟩:=by rw [← qt1 s,← Aq,h15];rfl
  rw [h15,show ql2 [116,114,97,110,115,108,97,116,101]=some (3,3,false,4)from rfl,e];exact func_15 w
 by_cases h16:s.toList= [115,116,114,105,110,103,45,108,101,110,103,116,104]
 ·have e:s=⟨#[115,116,114,105,110,103,45,108,101,110,103,116,104]⟩:=by rw [← qt1 s,← Aq,h16];rfl
  rw [h16,show ql2 [115,116,114,105,110,103,45,108,101,110,103,116,104]=some (0,1,false,3)from rfl,e];exact func_16 w
 by_cases h17:s.toList= [98,111,111,108,101,97,110]
 ·have e:s=⟨#[98,111,111,108,101,97,110]⟩:=by rw [← qt1 s,← Aq,h17];rfl
  rw [h17,show ql2 [98,111,111,108,101,97,110]=some (1,1,false,2)from rfl,e];exact func_17 w
 by_cases h18:s.toList= [110,111,116]
 ·have e:s=⟨#[110,111,116]⟩:=by rw [← qt1 s,← Aq,h18];rfl
  rw [h18,show ql2 [110,111,116]=some (1,1,false,2)from rfl,e];exact func_18 w
 by_cases h19:s.toList= [108,97,110,103]
 ·have e:s=⟨#[108,97,110,103]⟩:=by rw [← qt1 s,← Aq,h19];rfl
  rw [h19,show ql2 [108,97,110,103]=some (1,1,false,2)from rfl,e];exact func_19 w
 by_cases h20:s.toList= [116,114,117,101]
 ·have e:s=⟨#[116,114,117,101]⟩:=by rw [← qt1 s,← Aq,h20];rfl
  rw [h20,show ql2 [116,114,117,101]=some (0,0,false,2)from rfl,e];exact func_20 w
 by_cases h21:s.toList= [102,97,108,115,101]
 ·have e:s=⟨#[102,97,108,115,101]⟩:=by rw [← qt1 s,← Aq,h21];rfl
  rw [h21,show ql2 [102,97,108,115,101]=some (0,0,false,2)from rfl,e];exact func_21 w
 by_cases h22:s.toList= [110,117,109,98,101,114]
 ·have e:s=⟨#[110,117,109,98,101,114]⟩:=by rw [← qt1 s,← Aq,h22];rfl
  rw [h22,show ql2 [110,117,109,98,101,114]=some (0,1,false,3)from rfl,e];exact func_22 w
 by_cases h23:s.toList= [102,108,111,111,114]
 ·have e:s=⟨#[102,108,111,111,114]⟩:=by rw [← qt1 s,← Aq,h23];rfl
  rw [h23,show ql2 [102,108,111,111,114]=some (1,1,false,3)from rfl,e];exact func_23 w
 by_cases h24:s.toList= [99,101,105,108,105,110,103]
 ·have e:s=⟨#[99,101,105,108,105,110,103]⟩:=by rw [← qt1 s,← Aq,h24];rfl
  rw [h24,show ql2 [99,101,105,108,105,110,103]=some (1,1,false,3)from rfl,e];exact func_24 w
 by_cases h25:s.toList= [114,111,117,110,100]
 ·have e:s=⟨#[114,111,117,110,100]⟩:=by rw [← qt1 s,← Aq,h25];rfl
  rw [h25,show ql2 [114,111,117,110,100]=some (1,1,false,3)from rfl,e];exact func_25 w
 have hn:ql2 s.toList=none:=by
  unfold ql2
  rw [List.find?_eq_none.2 (by
   intro x hx;simp only [funcsL,List.mem_cons,List.not_mem_nil,or_false]at hx
   rcases hx with rfl | rfl | rfl | rfl | rfl | rfl | rfl | rfl | rfl | rfl | rfl | rfl | rfl | rfl | rfl | rfl | rfl | rfl | rfl | rfl | rfl | rfl | rfl | rfl | rfl | rfl<;>(intro hq;have hq:=(beq_iff_eq.1 hq).symm;contradiction))]
  rfl
 rw [hn];exact qm20 s w h0 h1 h2 h3 h4 h5 h6 h7 h8 h9 h10 h11 h12 h13 h14 h15 h16 h17 h18 h19 h20 h21 h22 h23 h24 h25
end Go.Proofs.YtocdckniokhbbaaGreatDoor.Syn
namespace Go.Proofs.YtocdckniokhbbaaGreatDoor.Syn
open Go.RowKit Go.Shelf YtocdckniokhbbaaGreatDoorW.PrintWords YtocdckniokhbbaaGreatDoorW.PrintLast YtocdckniokhbbaaGreatDoorW.PrintMore CharB SpanA FigD LexA LexF
def qr24 (s:List UInt8) (l:List Ex) (k:Nat):Except Int Int:=match ql2 s with
 | none=> .error 32
 | some f=>if(l.length:Int)<f.1∨f.2.1<(l.length:Int)then .error 33 else(qy2 l k).bind fun ts=>if f.2.2.1=true∧ts.all (· == 1)=false then .error 35 else .ok f.2.2.2
def qi8 (g nd:Bool) (ty:Int) (l:List Ex) (k:Nat):Except Int Int:=(qy2 l k).bind fun ts=>if(g && (!nd || ts.all (· == 1)))=true then .ok ty else .error 35
theorem qs16 (nd:Bool) (ty:Int) (l:List Ex) (k:Nat):qi8 true nd ty l k=(qy2 l k).bind fun ts=>if nd=true∧ts.all (· == 1)=false then .error 35 else .ok ty:=by
 unfold qi8
 cases qy2 l k with
 | error n=>rfl
 | ok ts=>
  simp only [Bl]
  cases nd<;>cases ts.all (· == 1)<;>rfl
theorem qy23 (g nd:Bool) (ty:Int) (k:Nat):qi8 g nd ty [] k=if g=true then .ok ty else .error 35:=by
 unfold qi8;simp only [qy2,Bl,List.all_nil,Bool.or_true,Bool.and_true]
theorem qz23 {g nd:Bool} {ty:Int} {x:Ex} {l:List Ex} {k:Nat} {n:Int} (h:qw1 x k= .error n):qi8 g nd ty (x :: l) k= .error n:=by
 unfold qi8;simp only [qy2,h,Bl]
theorem left_ok {g nd:Bool} {ty:Int} {x:Ex} {l:List Ex} {k:Nat} {t:Int} (h:qw1 x k= .ok t):qi8 g nd ty (x :: l) k=qi8 ((t == 1 || !nd) && g) nd ty l k:=by
 unfold qi8;simp only [qy2,h,Bl]
 cases qy2 l k with
 | error n=>rfl
 | ok ts=>
  have e:(g && (!nd || (t == 1 && ts.all (· == 1))))=(((t == 1 || !nd) && g) && (!nd || ts.all (· == 1))):=by cases (t == 1)<;>cases nd<;>cases g<;>cases ts.all (· == 1)<;>rfl
  simp only [List.all_cons,e]
theorem qe17 (l:List Ex) (hl:∀ x ∈ l,OfC x) (k:Nat) (w:World) (F:Nat→Prop) (op:Int) (s:ByteArray) (t v:Int) (b:Bool) (A1:Option Addr) (c1:Nat) (A2:Option Addr) (n2 c2:Nat) (xs:List Value) (hk:k≤2) (hR:RepR F w l xs) (hW:Row F w A1 xs) (hr:qx9 l=true) (hw:wfL l) (hlen:l.length≤maxLen) :
  Calls Aj 72 #[.agg #[Aa Ab (k:Int)],.agg #[Aa Ab op,Ac s,Aa Ab t,Aa Ab v,Ae b,Ad A1 l.length c1,Ad A2 n2 c2]] w (AnsC w (fun t v=>v= Aa Ab t) (qr24 s.toList l k)):=by
 have B1:=(Ao w.heap.size w).alloc (Ag _) (Af #[Aa Ab (k:Int)] 83);have B2:=B1.alloc B1.size (Af #[Aa Ab op,Ac s,Aa Ab t,Aa Ab v,Ae b,Ad A1 l.length c1,Ad A2 n2 c2] 28);have HB2:=Aside0.mk B2;have hK:=qb (qr w (Af #[Aa Ab (k:Int)] 83)) (Af #[Aa Ab op,Ac s,Aa Ab t,Aa Ab v,Ae b,Ad A1 l.length c1,Ad A2 n2 c2] 28);have hE:=qr (w.alloc (Af #[Aa Ab (k:Int)] 83)) (Af #[Aa Ab op,Ac s,Aa Ab t,Aa Ab v,Ae b,Ad A1 l.length c1,Ad A2 n2 c2] 28);rw [qo]at hE;have HK2:=Aside0.mk hK;have HE2:=Aside0.mk hE;have hf:=fun W=>qj13 s W;clear hK hE B1 B2;have HL:=Aside0.mk hl;have HR:=Aside0.mk hR;have HW:=Aside0.mk hW;have HAll:=Aside0.mk hr;have HWf:=Aside0.mk hw;have HLen:=Aside0.mk (show l.length≤9223372036854775807 by unfold maxLen at hlen;omega);have HKk:=Aside0.mk hk;clear hl hR hW hr hw hlen hk;unfold qr24
 cases hF:ql2 s.toList with
 | none=>
  rw [hF]at hf;unfold qj17 at hf;go_enter Tryz.func72,Tryz.ntmps72;go_wp2_with fail
  refine(hf _).mono ?_;rintro e w3 ⟨rfl,b3⟩;have HB3:=Aside0.mk (HB2.out.trans (b3.mono HB2.out.size));have HK3:=Aside0.mk (qn HK2.out b3);have HE3:=Aside0.mk (qn HE2.out b3);clear b3 hf;go_wp2_with fail
  refine(qv3 _ _).mono ?_;rintro e w4 ⟨rfl,rfl⟩;exact⟨rfl,HB3.out.alloc HB3.out.size _,rfl⟩
 | some f=>
  obtain⟨le,mo,nd,ty⟩:=f;rw [hF]at hf;unfold qj17 at hf;simp only at hf ⊢;by_cases h1:(l.length:Int)<le
  ·rw [if_pos (.inl h1)];have d1:decide (le≤(l.length:Int))=false:=by simp;omega
   have d2:decide ((l.length:Int)≥le)=false:=by simp;omega
   clear h1;go_enter Tryz.func72,Tryz.ntmps72;go_wp2_with fail
   refine(hf _).mono ?_;rintro e w3 ⟨rfl,b3⟩;have HB3:=Aside0.mk (HB2.out.trans (b3.mono HB2.out.size));have HK3:=Aside0.mk (qn HK2.out b3);have HE3:=Aside0.mk (qn HE2.out b3);clear b3 hf;go_wp2_with fail
   refine(qu3 _ _).mono ?_;rintro e w4 ⟨rfl,rfl⟩;have HB4:=Aside0.mk (HB3.out.alloc HB3.out.size (Af #[Aa Ab le,Aa Ab mo,Ae nd,Aa Ab ty] 42));have HK4:=Aside0.mk (qb HK3.out (Af #[Aa Ab le,Aa Ab mo,Ae nd,Aa Ab ty] 42));have HE4:=Aside0.mk (qb HE3.out (Af #[Aa Ab le,Aa Ab mo,Ae nd,Aa Ab ty] 42));have HF4:=Aside0.mk (qr w3 (Af #[Aa Ab le,Aa Ab mo,Ae nd,Aa Ab ty] 42));have ec5:=(Ai HE4.out 5).trans (show _=some (Ad A1 l.length c1)from rfl);go_wp2_with fail
   refine(qv3 _ _).mono ?_;rintro e w5 ⟨rfl,rfl⟩;exact⟨rfl,HB4.out,rfl⟩
  by_cases h2:mo<(l.length:Int)
  ·rw [if_pos (.inr h2)];have d1:decide (le≤(l.length:Int))=true:=by simp;omega
   have d2:decide ((l.length:Int)≥le)=true:=by simp;omega
   have g1:decide ((l.length:Int)≤mo)=false:=by simp;omega
   have g2:decide (mo≥(l.length:Int))=false:=by simp;omega
   clear h1 h2;go_enter Tryz.func72,Tryz.ntmps72;go_wp2_with fail
   refine(hf _).mono ?_;rintro e w3 ⟨rfl,b3⟩;have HB3:=Aside0.mk (HB2.out.trans (b3.mono HB2.out.size));have HK3:=Aside0.mk (qn HK2.out b3);have HE3:=Aside0.mk (qn HE2.out b3);clear b3 hf;go_wp2_with fail
   refine(qu3 _ _).mono ?_;rintro e w4 ⟨rfl,rfl⟩;have HB4:=Aside0.mk (HB3.out.alloc HB3.out.size (Af #[Aa Ab le,Aa Ab mo,Ae nd,Aa Ab ty] 42));have HK4:=Aside0.mk (qb HK3.out (Af #[Aa Ab le,Aa Ab mo,Ae nd,Aa Ab ty] 42));have HE4:=Aside0.mk (qb HE3.out (Af #[Aa Ab le,Aa Ab mo,Ae nd,Aa Ab ty] 42));have HF4:=Aside0.mk (qr w3 (Af #[Aa Ab le,Aa Ab mo,Ae nd,Aa Ab ty] 42));have ec5:=(Ai HE4.out 5).trans (show _=some (Ad A1 l.length c1)from rfl);go_wp2_with fail
   refine(qv3 _ _).mono ?_;rintro e w5 ⟨rfl,rfl⟩;exact⟨rfl,HB4.out,rfl⟩
  rw [if_neg (by omega),← qs16];have d1:decide (le≤(l.length:Int))=true:=by simp;omega
  have d2:decide ((l.length:Int)≥le)=true:=by simp;omega
  have g1:decide ((l.length:Int)≤mo)=true:=by simp;omega
  have g2:decide (mo≥(l.length:Int))=true:=by simp;omega
  clear h1 h2;obtain⟨R,hR0⟩:∃ R,qi8 true nd ty l k=R:=⟨_,rfl⟩;rw [hR0];have HQs:Aside0 (qi8 true nd ty (l.drop 0) k=R):=⟨za4⟩;clear hR0;go_enter Tryz.func72,Tryz.ntmps72;go_wp2_with fail
  refine(hf _).mono ?_;rintro e w3 ⟨rfl,b3⟩;have HB3:=Aside0.mk (HB2.out.trans (b3.mono HB2.out.size));have HK3:=Aside0.mk (qn HK2.out b3);have HE3:=Aside0.mk (qn HE2.out b3);clear b3 hf;go_wp2_with fail
  refine(qu3 _ _).mono ?_;rintro e w4 ⟨rfl,rfl⟩;have HB4:=Aside0.mk (HB3.out.alloc HB3.out.size (Af #[Aa Ab le,Aa Ab mo,Ae nd,Aa Ab ty] 42));have HK4:=Aside0.mk (qb HK3.out (Af #[Aa Ab le,Aa Ab mo,Ae nd,Aa Ab ty] 42));have HE4:=Aside0.mk (qb HE3.out (Af #[Aa Ab le,Aa Ab mo,Ae nd,Aa Ab ty] 42));have HF4:=Aside0.mk (qr w3 (Af #[Aa Ab le,Aa Ab mo,Ae nd,Aa Ab ty] 42));have ec5:=(Ai HE4.out 5).trans (show _=some (Ad A1 l.length c1)from rfl);go_wp2_with fail
  refine(qu3 _ _).mono ?_;rintro e w5 ⟨rfl,rfl⟩;clear d1 d2 g1 g2;have HBs:=HB4;have HKs:=HK4;have HFs:=HF4;clear HK3 HE3 HB3 HB4 HK4 HF4 HE4 HK2 HE2 HB2;go_wp2_with fail
  go_loopg [7,36] l.length (fun kq v7 v36 w'=>∃ (i:Nat) (g:Bool),v7= Ae g∧v36= Aa Ab (i:Int)∧Aside0 (kq+i=l.length)∧Aside0 (Below w.heap.size w w')∧Aside0 (w'.heap[w.heap.size]?=some (Af #[Aa Ab (k:Int)] 83 (0,0)))∧Aside0 (w'.heap[w3.heap.size]?=some (Af #[Aa Ab le,Aa Ab mo,Ae nd,Aa Ab ty] 42 (0,0)))∧Aside0 (qi8 g nd ty (l.drop i) k=R))
  case atStart=>exact⟨0,true,rfl,rfl,⟨rfl⟩,HBs,HKs,HFs,HQs⟩
  case round=>
   obtain⟨i,g,rfl,rfl,HI,HBr,HKr,HFr,HQ⟩:=hrel;clear HBs HKs HFs HQs;by_cases hi:i<l.length
   ·obtain⟨x,hix⟩:∃ x,l[i]?=some x:=⟨_,AG hi⟩;obtain⟨a,opx,sx,tx,vx,bx,A1x,n1x,c1x,A2x,n2x,c2x,rfl,hFa,hba,hRx,x0,x1,x2,x3,x4,x5,x6⟩:=Row.exp (HR.out.keeps (Keeps.of_below HBr.out)) (HW.out.keeps (Keeps.of_below HBr.out)) i x hix;have hlt:decide ((i:Int)<(l.length:Int))=true:=by simp;omega
    have h0i:(0:Int)≤(i:Int):=by omega
    have hil:(i:Int)<(l.length:Int):=by omega
    have kc0:=(Ai (qb HKr.out (Af #[Aa Ab opx,Ac sx,Aa Ab tx,Aa Ab vx,Ae bx,Ad A1x n1x c1x,Ad A2x n2x c2x] 28)) 0).trans (show _=some (Aa Ab (k:Int))from rfl);have B2:=HBr.out.alloc HBr.out.size (Af #[Aa Ab opx,Ac sx,Aa Ab tx,Aa Ab vx,Ae bx,Ad A1x n1x c1x,Ad A2x n2x c2x] 28);have hdrop:l.drop i=x :: l.drop (i+1):=by rw [List.drop_eq_getElem_cons hi];congr 1;exact Ay.inj ((AG hi).symm.trans hix)
    have hQ:=HQ.out;rw [hdrop]at hQ;have hmem:x ∈ l:=List.mem_of_getElem? hix;have HKr2:=Aside0.mk (qb HKr.out (Af #[Aa Ab opx,Ac sx,Aa Ab tx,Aa Ab vx,Ae bx,Ad A1x n1x c1x,Ad A2x n2x c2x] 28));have HFr2:=Aside0.mk (qb HFr.out (Af #[Aa Ab opx,Ac sx,Aa Ab tx,Aa Ab vx,Ae bx,Ad A1x n1x c1x,Ad A2x n2x c2x] 28));have HB2':=Aside0.mk B2;have hw1:wrap64 ((i:Int)+1)=((i+1:Nat):Int):=by have:=HLen.out;unfold wrap64;omega
    have hc:=HL.out x hmem k _ F opx sx tx vx bx A1x n1x c1x A2x n2x c2x HKk.out (hRx.keeps (Keeps.of_below ((Ao wr.heap.size wr).alloc (Ag _) (Af #[Aa Ab opx,Ac sx,Aa Ab tx,Aa Ab vx,Ae bx,Ad A1x n1x c1x,Ad A2x n2x c2x] 28)))) (qo5 HAll.out hmem) (qn6 HWf.out hmem);clear hdrop hmem B2 HQ hRx
    cases hq:qw1 x k with
    | error n=>
     rw [qz23 hq]at hQ;rw [hq]at hc;subst hQ;clear hq;go_wp2_with fail
     refine hc.mono ?_;rintro e w6 ⟨b6,he⟩;have he:e=qw7 n:=he;subst he;exact⟨rfl,HB2'.out.trans (b6.mono HB2'.out.size),rfl⟩
    | ok t1=>
     rw [left_ok hq]at hQ;rw [hq]at hc;clear hq;have HQ5:=Aside0.mk hQ;clear hQ;go_wp2_with fail
     refine hc.mono ?_;rintro e w6 ⟨b6,v6,rfl,rfl⟩;have HB9:=Aside0.mk (HB2'.out.trans (b6.mono HB2'.out.size));have HK9:=Aside0.mk (qn HKr2.out b6);have HF9:=Aside0.mk (qn HFr2.out b6);clear b6 hc kc0 x0 x1 x2 x3 x4 x5 x6;have fc2:=(Ai HF9.out 2).trans (show _=some (Ae nd)from rfl);by_cases g1:t1=1
     ·have d1:(t1 == 1)=true:=by simpa using g1
      have hq9:=HQ5.out;rw [d1,Bool.true_or,AL]at hq9;have HQ9:=Aside0.mk hq9;clear hq9 g1 HQ5;go_wp2_with fail
      obtain⟨g2,rfl⟩:∃ g2,gk=g2+1:=⟨gk - 1,zan⟩;go_roundg g2
      case measure=>omega
      case rel=>exact⟨i+1,g,rfl,congrArg (Value.int .i64) hw1,⟨zan⟩,HB9,HK9,HF9,HQ9⟩
     ·have d1:(t1 == 1)=false:=by simpa using g1
      have hq9:=HQ5.out;rw [d1,Bool.false_or]at hq9;clear g1 HQ5
      cases nd with
      | false=>
       rw [Bool.not_false,AL]at hq9;have HQ9:=Aside0.mk hq9;clear hq9;go_wp2_with fail
       obtain⟨g2,rfl⟩:∃ g2,gk=g2+1:=⟨gk - 1,zan⟩;go_roundg g2
       case measure=>omega
       case rel=>exact⟨i+1,g,rfl,congrArg (Value.int .i64) hw1,⟨zan⟩,HB9,HK9,HF9,HQ9⟩
      | true=>
       rw [Bool.not_true,AN]at hq9;have HQ9:=Aside0.mk hq9;clear hq9;go_wp2_with fail
       obtain⟨g2,rfl⟩:∃ g2,gk=g2+1:=⟨gk - 1,zan⟩;go_roundg g2
       case measure=>omega
       case rel=>exact⟨i+1,false,rfl,congrArg (Value.int .i64) hw1,⟨zan⟩,HB9,HK9,HF9,HQ9⟩
   ·have hlt:decide ((i:Int)<(l.length:Int))=false:=by simp;omega
    have hlt2:decide (i<l.length)=false:=by simp;omega
    have hQ:=HQ.out;rw [List.drop_eq_nil_of_le (by omega),qy23]at hQ;clear HQ hi;have fc3:=(Ai HFr.out 3).trans (show _=some (Aa Ab ty)from rfl)
    cases g with
    | false=>
     rw [if_neg (by simp)]at hQ;subst hQ;go_wp2_with fail
     refine(qv3 _ _).mono ?_;rintro e w9 ⟨rfl,rfl⟩;exact⟨rfl,HBr.out,rfl⟩
    | true=>
     rw [if_pos rfl]at hQ;subst hQ;go_wp2_with fail
     refine(qu3 _ _).mono ?_;rintro e w9 ⟨rfl,rfl⟩;go_wp2_with fail
     go_ret;exact⟨HBr.out,_,rfl,rfl⟩
end Go.Proofs.YtocdckniokhbbaaGreatDoor.Syn
namespace Go.Proofs.YtocdckniokhbbaaGreatDoor.Syn
open Go.RowKit Go.Shelf YtocdckniokhbbaaGreatDoorW.PrintWords YtocdckniokhbbaaGreatDoorW.PrintLast YtocdckniokhbbaaGreatDoorW.PrintMore CharB SpanA FigD LexA LexF
theorem qk22 (v:Value) (w:World):(Instr.typeAssert (.iface 58 v) 20 58 true).run Aj w= .ok (.tuple #[v,Ae true]) w:=by kernel_rfl
theorem qq9 (bx be:Nat) (w:World) (op:Int) (s:ByteArray) (d t:Int) (b:Bool) (A1:Option Addr) (n1 c1:Nat) (A2:Option Addr) (n2 c2:Nat) (n:Int) (hne:bx≠be)
  (hx:w.heap[bx]?=some (Af #[Aa Ab op,Ac s,Aa Ab d,Aa Ab t,Ae b,Ad A1 n1 c1,Ad A2 n2 c2] 28 (0,0))) (he:w.heap[be]?=some (Af #[Aa Ab n] 29 (0,0))) :
  CallsD Aj 26 #[.pointer (some ⟨bx,0,none⟩),.pointer (some ⟨be,0,none⟩)] (.panicking [{v:= .iface 58 (.agg #[]),recovered:=false}]) w fun e u' w'=>
   e= .returned (.tuple #[])∧u'= .panicking [{v:= .iface 58 (.agg #[]),recovered:=true}]∧w'=(At (At (At (At (At (At (At (At (w.alloc (Af #[] 58)) ⟨bx,0,none⟩ (Aa Ab 0)) ⟨bx,1,none⟩ (Ac ⟨#[]⟩)) ⟨bx,2,none⟩ (Aa Ab 0)) ⟨bx,3,none⟩ (Aa Ab 0)) ⟨bx,4,none⟩ (Ae false)) ⟨bx,5,none⟩ (Ad none 0 0)) ⟨bx,6,none⟩ (Ad none 0 0)) ⟨be,0,none⟩ (Aa Ab 31)):=by
 have hta:=fun W=>qk22 (.agg #[]) W;have hx1:=qb hx (Af #[] 58);have he1:=qb he (Af #[] 58);obtain⟨xc0,xc1,xc2,xc3,xc4,xc5,xc6,xf0,xf1,xf2,xf3,xf4,xf5,xf6⟩:=fd7 (hx1);have ec0:=(Ai he1 0).trans (show _=some (Aa Ab n)from rfl);have ef0:=qe he1 0;clear hx he hx1 he1;refine callsD_of_wpS Tryz.func26 rfl fun c₀ cs hu=>?_;apply wpS_seq;apply wpS_region;simp [wpOpsS,go_sem,recoverD,hu,Tryz.ntmps26,Exit.thenS];refine wpS_of_wp ?_;go_wp2_with fail
 simp [bodyPostS,results,Tryz.results26]
theorem qc17 (bx be:Nat) (w:World) :
  CallsD Aj 26 #[.pointer (some ⟨bx,0,none⟩),.pointer (some ⟨be,0,none⟩)] .returning w fun e u' w'=>e= .returned (.tuple #[])∧u'= .returning∧w'=w:=by
 refine callsD_of_wpS Tryz.func26 rfl fun c₀ cs hu=>?_;apply wpS_seq;apply wpS_region;simp [wpOpsS,go_sem,recoverD,hu,Tryz.ntmps26,Exit.thenS];refine wpS_of_wp ?_;go_wp2_with fail
 simp [bodyPostS,results,hu,Tryz.results26];rw [← hu]
end Go.Proofs.YtocdckniokhbbaaGreatDoor.Syn
