/- figure.parts: what it computes. -/
import Derived.Test.YthilcidoacgdfaaGreatDoorZcFigD
namespace Go.Proofs.YthilcidoacgdfaaGreatDoor.CharB
end Go.Proofs.YthilcidoacgdfaaGreatDoor.CharB
namespace Go.Proofs.YthilcidoacgdfaaGreatDoor.CharD
end Go.Proofs.YthilcidoacgdfaaGreatDoor.CharD
namespace Go.Proofs.YthilcidoacgdfaaGreatDoor.FigA
end Go.Proofs.YthilcidoacgdfaaGreatDoor.FigA
namespace Go.Proofs.YthilcidoacgdfaaGreatDoor.FigC
end Go.Proofs.YthilcidoacgdfaaGreatDoor.FigC
namespace Go.Proofs.YthilcidoacgdfaaGreatDoor.FigD
end Go.Proofs.YthilcidoacgdfaaGreatDoor.FigD
namespace Go.Proofs.YthilcidoacgdfaaGreatDoor.SpanA
end Go.Proofs.YthilcidoacgdfaaGreatDoor.SpanA
namespace Go.Proofs.YthilcidoacgdfaaGreatDoorW.PrintLast
end Go.Proofs.YthilcidoacgdfaaGreatDoorW.PrintLast
namespace Go.Proofs.YthilcidoacgdfaaGreatDoorW.PrintMore
end Go.Proofs.YthilcidoacgdfaaGreatDoorW.PrintMore
namespace Go.Proofs.YthilcidoacgdfaaGreatDoorW.PrintWords
end Go.Proofs.YthilcidoacgdfaaGreatDoorW.PrintWords
namespace Go.Proofs.YthilcidoacgdfaaGreatDoor.FigE
open Go.RowKit Go.Shelf Go.Proofs.YthilcidoacgdfaaGreatDoorW.PrintWords Go.Proofs.YthilcidoacgdfaaGreatDoorW.PrintLast Go.Proofs.YthilcidoacgdfaaGreatDoorW.PrintMore Go.Proofs.YthilcidoacgdfaaGreatDoor.CharB Go.Proofs.YthilcidoacgdfaaGreatDoor.CharD Go.Proofs.YthilcidoacgdfaaGreatDoor.SpanA Go.Proofs.YthilcidoacgdfaaGreatDoor.FigA Go.Proofs.YthilcidoacgdfaaGreatDoor.FigC Go.Proofs.YthilcidoacgdfaaGreatDoor.FigD
set_option linter.unusedVariables false
set_option linter.unusedSimpArgs false
def Keeps (b : Nat) (w w' : World) : Prop := ∀ c v t, c ≠ b → Cell c v t w → Cell c v t w'
theorem takes {P : Program} {f : FuncId} {args : Array Value} {w : World} {b B : Nat} {s : ByteArray} {x y : List UInt8} (h : Cell b (.string s) 9 w) (hB : B ≤ b)
    (hc : Calls P f args w fun e w' => e = .returned (.string (ba x)) ∧ w' = w.setCell ⟨b, 0, none⟩ (.string (ba y))) :
    Calls P f args w fun e w' => e = .returned (.string (ba x)) ∧ Cell b (.string (ba y)) 9 w' ∧ Below B w w' ∧ Keeps b w w' := by
  refine hc.mono ?_
  rintro e w' ⟨rfl, rfl⟩
  exact ⟨rfl, h.set, (Below.refl B w).setCell (p := ⟨b, 0, none⟩) hB _, fun c v t hne hv => hv.other (fun e => hne e.symm)⟩
theorem nil_of (a : List UInt8) : (ba a).toList = a := by rw [ByteArray.toList_eq, ba_list]
set_option maxHeartbeats 4000000 in
set_option maxRecDepth 100000 in
theorem parts_call (s : ByteArray) (w : World) (hs : s.size ≤ 1000000000) :
    Calls Tryz.prog 95 #[.string s] w fun e w' => e = .returned (.tuple #[.string (ba (partsS s.data.toList).1), .string (ba (partsS s.data.toList).2.1), .bool (partsS s.data.toList).2.2]) ∧ Below w.heap.size w w' := by
  have W := fun a : List UInt8 => (List.dropWhile_sublist (l := a) digB).length_le
  have c1 : ∀ w1, Cell w.heap.size (.string s) 9 w1 → _ := fun w1 h => takes h (Nat.le_refl _) (take_digit s w.heap.size w1 hs h)
  have hl0 := W s.data.toList
  rw [← Lib.size_eq] at hl0
  obtain ⟨r, hr⟩ : ∃ r, s.data.toList.dropWhile digB = r := ⟨_, rfl⟩
  obtain ⟨a, ha⟩ : ∃ a, s.data.toList.takeWhile digB = a := ⟨_, rfl⟩
  have c2 : ∀ w1, Cell w.heap.size (.string (ba r)) 9 w1 → Cell (w.heap.size + 1) (.bool true) 4 w1 → _ := fun w1 h hc => take_point (ba r) w.heap.size (w.heap.size + 1) w.heap.size w1 (by rw [ba_size, ← hr]; omega) h hc (by omega) (Nat.le_refl _) (by omega)
  have hps : partsS s.data.toList = (a, if r.head? = some 46 then r.tail.takeWhile digB else [], (if r.head? = some 46 then r.tail.dropWhile digB else r).isEmpty && (!a.isEmpty || !(if r.head? = some 46 then r.tail.takeWhile digB else []).isEmpty)) := by rw [← hr, ← ha]; rfl
  rw [hr, ha] at c1
  rw [hr] at hl0
  rw [hps]
  simp only
  have hrl : r.length ≤ 1000000000 := by omega
  clear hps hr ha hl0
  have ta := nil_of a
  have two : ∀ w1, w1 = (w.alloc (Obj.cells #[.string s] 9)).alloc (Obj.cells #[.bool true] 4) → Cell w.heap.size (.string s) 9 w1 ∧ Cell (w.heap.size + 1) (.bool true) 4 w1 ∧ Below w.heap.size w w1 := by
    rintro w1 rfl
    refine ⟨blk_alloc (blk_new w _) _, ?_, ((Below.refl _ _).alloc (Nat.le_refl _) _).alloc (by simp) _⟩
    have := blk_new (w.alloc (Obj.cells #[.string s] 9)) (Obj.cells #[.bool true] 4)
    have e : (w.alloc (Obj.cells #[.string s] 9)).heap.size = w.heap.size + 1 := by simp
    rw [e] at this
    exact this
  have ct := taker_call s w
  by_cases hdot : r.head? = some 46
  · have e1 : dotL r = [46] := by unfold dotL; rw [if_pos hdot]
    have e2 : dotR r = r.tail := by unfold dotR; rw [if_pos hdot]
    rw [ba_list, e1, e2] at c2
    simp only [if_pos hdot]
    have hl1 : r.tail.length ≤ 1000000000 := by rw [List.length_tail]; omega
    generalize r.tail = q at *
    clear e1 e2 hdot
    have c3 : ∀ w1, Cell w.heap.size (.string (ba q)) 9 w1 → _ := fun w1 h => takes h (Nat.le_refl _) (take_digit (ba q) w.heap.size w1 (by rw [ba_size]; omega) h)
    rw [ba_list] at c3
    have hl2 := W q
    generalize q.takeWhile digB = b at *
    generalize q.dropWhile digB = z at *
    have c4 : ∀ w1, Cell w.heap.size (.string (ba z)) 9 w1 → _ := fun w1 h => takes h (Nat.le_refl _) (take_all (ba z) w.heap.size w1 (by rw [ba_size]; omega) h)
    have hz0 : z.takeWhile (fun _ => true) = z := by have := (takeW_all (p := fun _ => true) z [] (by simp) (by simp)).1; simpa using this
    rw [ba_list, hz0] at c4
    clear hz0 hl2 W hrl hl1
    have td : (ba [46]).toList = [46] := nil_of _
    have tz := nil_of z
    have tb := nil_of b
    go_enter Tryz.func95, Tryz.ntmps95
    go_wp2_with fail
    refine ct.mono ?_
    rintro e w1 ⟨rfl, rfl⟩
    go_wp2_with fail
    refine (c1 _ (two _ rfl).1).mono ?_
    rintro e w1 ⟨rfl, h1, b1, k1⟩
    have hc1 := k1 _ _ _ (by omega) (two _ rfl).2.1
    have B1 := Aside0.mk ((two _ rfl).2.2.trans b1)
    clear two b1 k1 c1
    go_wp2_with fail
    refine (c2 w1 h1 hc1).mono ?_
    rintro e w2 ⟨rfl, h2, b2⟩
    have B2 := Aside0.mk (B1.out.trans b2)
    clear b2 c2 h1 hc1 B1
    go_wp2_with fail
    refine (c3 w2 h2).mono ?_
    rintro e w3 ⟨rfl, h3, b3, _⟩
    have B3 := Aside0.mk (B2.out.trans b3)
    clear b3 c3 h2 B2
    go_wp2_with fail
    refine (c4 w3 h3).mono ?_
    rintro e w4 ⟨rfl, _, b4, _⟩
    have B4 := Aside0.mk (B3.out.trans b4)
    clear b4 c4 h3 B3
    go_wp2_with fail
    all_goals
      go_ret3
      exact ⟨by simp [*], B4.out⟩
  · have e1 : dotL r = [] := by unfold dotL; rw [if_neg hdot]
    have e2 : dotR r = r := by unfold dotR; rw [if_neg hdot]
    rw [ba_list, e1, e2] at c2
    simp only [if_neg hdot]
    clear e1 e2 hdot
    have c4 : ∀ w1, Cell w.heap.size (.string (ba r)) 9 w1 → _ := fun w1 h => takes h (Nat.le_refl _) (take_all (ba r) w.heap.size w1 (by rw [ba_size]; omega) h)
    have hz0 : r.takeWhile (fun _ => true) = r := by have := (takeW_all (p := fun _ => true) r [] (by simp) (by simp)).1; simpa using this
    rw [ba_list, hz0] at c4
    clear hz0 W hrl
    have td : (ba []).toList = [] := nil_of _
    have tz := nil_of r
    go_enter Tryz.func95, Tryz.ntmps95
    go_wp2_with fail
    refine ct.mono ?_
    rintro e w1 ⟨rfl, rfl⟩
    go_wp2_with fail
    refine (c1 _ (two _ rfl).1).mono ?_
    rintro e w1 ⟨rfl, h1, b1, k1⟩
    have hc1 := k1 _ _ _ (by omega) (two _ rfl).2.1
    have B1 := Aside0.mk ((two _ rfl).2.2.trans b1)
    clear two b1 k1 c1
    go_wp2_with fail
    refine (c2 w1 h1 hc1).mono ?_
    rintro e w2 ⟨rfl, h2, b2⟩
    have B2 := Aside0.mk (B1.out.trans b2)
    clear b2 c2 h1 hc1 B1
    go_wp2_with fail
    refine (c4 w2 h2).mono ?_
    rintro e w4 ⟨rfl, _, b4, _⟩
    have B4 := Aside0.mk (B2.out.trans b4)
    clear b4 c4 h2 B2
    go_wp2_with fail
    all_goals
      go_ret3
      exact ⟨by simp [*, ba, ByteArray.empty, ByteArray.emptyWithCapacity], B4.out⟩
end Go.Proofs.YthilcidoacgdfaaGreatDoor.FigE
