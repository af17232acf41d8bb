import Derived.Lib.Builder
set_option linter.unusedVariables false
set_option linter.unusedSimpArgs false
open Go.Obj renaming cells→Af
open Go.Lib renaming cell_of_heap→Ai
namespace Go.Proofs.YtocdckniokhbbaaGreatDoor
open Go
theorem fc3 {w:World} {g:Nat} {a0 a1 a2:Value} {t:TypeId} (h:w.heap[g]?=some (Af #[a0,a1,a2] t (0,0))):w.cell? ⟨g,0,none⟩=some a0∧w.cell? ⟨g,1,none⟩=some a1∧w.cell? ⟨g,2,none⟩=some a2:=⟨Ai h 0,Ai h 1,Ai h 2⟩
theorem fd3 {w:World} {g:Nat} {a0 a1 a2:Value} {t:TypeId} (h:w.heap[g]?=some (Af #[a0,a1,a2] t (0,0))):w.cell? ⟨g,0,none⟩=some a0∧w.cell? ⟨g,1,none⟩=some a1∧w.cell? ⟨g,2,none⟩=some a2∧w.frozen? ⟨g,0,none⟩=false∧w.frozen? ⟨g,1,none⟩=false∧w.frozen? ⟨g,2,none⟩=false:=by
 refine⟨Ai h 0,Ai h 1,Ai h 2,?_,?_,?_⟩
 all_goals simp [World.frozen?,h]
theorem fc4 {w:World} {g:Nat} {a0 a1 a2 a3:Value} {t:TypeId} (h:w.heap[g]?=some (Af #[a0,a1,a2,a3] t (0,0))):w.cell? ⟨g,0,none⟩=some a0∧w.cell? ⟨g,1,none⟩=some a1∧w.cell? ⟨g,2,none⟩=some a2∧w.cell? ⟨g,3,none⟩=some a3:=⟨Ai h 0,Ai h 1,Ai h 2,Ai h 3⟩
theorem fd4 {w:World} {g:Nat} {a0 a1 a2 a3:Value} {t:TypeId} (h:w.heap[g]?=some (Af #[a0,a1,a2,a3] t (0,0))):w.cell? ⟨g,0,none⟩=some a0∧w.cell? ⟨g,1,none⟩=some a1∧w.cell? ⟨g,2,none⟩=some a2∧w.cell? ⟨g,3,none⟩=some a3∧w.frozen? ⟨g,0,none⟩=false∧w.frozen? ⟨g,1,none⟩=false∧w.frozen? ⟨g,2,none⟩=false∧w.frozen? ⟨g,3,none⟩=false:=by
 refine⟨Ai h 0,Ai h 1,Ai h 2,Ai h 3,?_,?_,?_,?_⟩
 all_goals simp [World.frozen?,h]
theorem fc5 {w:World} {g:Nat} {a0 a1 a2 a3 a4:Value} {t:TypeId} (h:w.heap[g]?=some (Af #[a0,a1,a2,a3,a4] t (0,0))):w.cell? ⟨g,0,none⟩=some a0∧w.cell? ⟨g,1,none⟩=some a1∧w.cell? ⟨g,2,none⟩=some a2∧w.cell? ⟨g,3,none⟩=some a3∧w.cell? ⟨g,4,none⟩=some a4:=⟨Ai h 0,Ai h 1,Ai h 2,Ai h 3,Ai h 4⟩
theorem fd5 {w:World} {g:Nat} {a0 a1 a2 a3 a4:Value} {t:TypeId} (h:w.heap[g]?=some (Af #[a0,a1,a2,a3,a4] t (0,0))):w.cell? ⟨g,0,none⟩=some a0∧w.cell? ⟨g,1,none⟩=some a1∧w.cell? ⟨g,2,none⟩=some a2∧w.cell? ⟨g,3,none⟩=some a3∧w.cell? ⟨g,4,none⟩=some a4∧w.frozen? ⟨g,0,none⟩=false∧w.frozen? ⟨g,1,none⟩=false∧w.frozen? ⟨g,2,none⟩=false∧w.frozen? ⟨g,3,none⟩=false∧w.frozen? ⟨g,4,none⟩=false:=by
 refine⟨Ai h 0,Ai h 1,Ai h 2,Ai h 3,Ai h 4,?_,?_,?_,?_,?_⟩
 all_goals simp [World.frozen?,h]
theorem fc7 {w:World} {g:Nat} {a0 a1 a2 a3 a4 a5 a6:Value} {t:TypeId} (h:w.heap[g]?=some (Af #[a0,a1,a2,a3,a4,a5,a6] t (0,0))):w.cell? ⟨g,0,none⟩=some a0∧w.cell? ⟨g,1,none⟩=some a1∧w.cell? ⟨g,2,none⟩=some a2∧w.cell? ⟨g,3,none⟩=some a3∧w.cell? ⟨g,4,none⟩=some a4∧w.cell? ⟨g,5,none⟩=some a5∧w.cell? ⟨g,6,none⟩=some a6:=⟨Ai h 0,Ai h 1,Ai h 2,Ai h 3,Ai h 4,Ai h 5,Ai h 6⟩
theorem fd7 {w:World} {g:Nat} {a0 a1 a2 a3 a4 a5 a6:Value} {t:TypeId} (h:w.heap[g]?=some (Af #[a0,a1,a2,a3,a4,a5,a6] t (0,0))):w.cell? ⟨g,0,none⟩=some a0∧w.cell? ⟨g,1,none⟩=some a1∧w.cell? ⟨g,2,none⟩=some a2∧w.cell? ⟨g,3,none⟩=some a3∧w.cell? ⟨g,4,none⟩=some a4∧w.cell? ⟨g,5,none⟩=some a5∧w.cell? ⟨g,6,none⟩=some a6∧w.frozen? ⟨g,0,none⟩=false∧w.frozen? ⟨g,1,none⟩=false∧w.frozen? ⟨g,2,none⟩=false∧w.frozen? ⟨g,3,none⟩=false∧w.frozen? ⟨g,4,none⟩=false∧w.frozen? ⟨g,5,none⟩=false∧w.frozen? ⟨g,6,none⟩=false:=by
 refine⟨Ai h 0,Ai h 1,Ai h 2,Ai h 3,Ai h 4,Ai h 5,Ai h 6,?_,?_,?_,?_,?_,?_,?_⟩
 all_goals simp [World.frozen?,h]
end Go.Proofs.YtocdckniokhbbaaGreatDoor
