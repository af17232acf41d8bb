/- Get and GetAttr: what they compute. -/
import Derived.Test.YticpobgkbapdmaaDoorKoEscG
namespace Go.Proofs.YticpobgkbapdmaaDoor.CharA
end Go.Proofs.YticpobgkbapdmaaDoor.CharA
namespace Go.Proofs.YticpobgkbapdmaaDoor.CharB
end Go.Proofs.YticpobgkbapdmaaDoor.CharB
namespace Go.Proofs.YticpobgkbapdmaaDoor.CharC
end Go.Proofs.YticpobgkbapdmaaDoor.CharC
namespace Go.Proofs.YticpobgkbapdmaaDoor.CharD
end Go.Proofs.YticpobgkbapdmaaDoor.CharD
namespace Go.Proofs.YticpobgkbapdmaaDoor.CharE
end Go.Proofs.YticpobgkbapdmaaDoor.CharE
namespace Go.Proofs.YticpobgkbapdmaaDoor.CharH
end Go.Proofs.YticpobgkbapdmaaDoor.CharH
namespace Go.Proofs.YticpobgkbapdmaaDoor.EscA
end Go.Proofs.YticpobgkbapdmaaDoor.EscA
namespace Go.Proofs.YticpobgkbapdmaaDoor.EscB
end Go.Proofs.YticpobgkbapdmaaDoor.EscB
namespace Go.Proofs.YticpobgkbapdmaaDoor.EscC
end Go.Proofs.YticpobgkbapdmaaDoor.EscC
namespace Go.Proofs.YticpobgkbapdmaaDoor.EscD
end Go.Proofs.YticpobgkbapdmaaDoor.EscD
namespace Go.Proofs.YticpobgkbapdmaaDoor.EscE
end Go.Proofs.YticpobgkbapdmaaDoor.EscE
namespace Go.Proofs.YticpobgkbapdmaaDoor.EscF
end Go.Proofs.YticpobgkbapdmaaDoor.EscF
namespace Go.Proofs.YticpobgkbapdmaaDoor.EscG
end Go.Proofs.YticpobgkbapdmaaDoor.EscG
namespace Go.Proofs.YticpobgkbapdmaaDoor.EscH
end Go.Proofs.YticpobgkbapdmaaDoor.EscH
namespace Go.Proofs.YticpobgkbapdmaaDoor.PR1
end Go.Proofs.YticpobgkbapdmaaDoor.PR1
namespace Go.Proofs.YticpobgkbapdmaaDoor.SpanA
end Go.Proofs.YticpobgkbapdmaaDoor.SpanA
namespace Go.Proofs.YticpobgkbapdmaaDoor.SpanB
end Go.Proofs.YticpobgkbapdmaaDoor.SpanB
namespace Go.Proofs.YticpobgkbapdmaaDoor.SpanC
end Go.Proofs.YticpobgkbapdmaaDoor.SpanC
namespace Go.Proofs.YticpobgkbapdmaaDoor.SpanD
end Go.Proofs.YticpobgkbapdmaaDoor.SpanD
namespace Go.Proofs.YticpobgkbapdmaaDoor.SpanF
end Go.Proofs.YticpobgkbapdmaaDoor.SpanF
namespace Go.Proofs.YticpobgkbapdmaaDoorW.PrintLast
end Go.Proofs.YticpobgkbapdmaaDoorW.PrintLast
namespace Go.Proofs.YticpobgkbapdmaaDoorW.PrintMore
end Go.Proofs.YticpobgkbapdmaaDoorW.PrintMore
namespace Go.Proofs.YticpobgkbapdmaaDoorW.PrintWords
end Go.Proofs.YticpobgkbapdmaaDoorW.PrintWords
namespace Go.Proofs.YticpobgkbapdmaaDoor.EscI
open Go.RowKit Go.Shelf Go.Proofs.YticpobgkbapdmaaDoorW.PrintWords Go.Proofs.YticpobgkbapdmaaDoorW.PrintLast Go.Proofs.YticpobgkbapdmaaDoorW.PrintMore Go.Proofs.YticpobgkbapdmaaDoor.CharA Go.Proofs.YticpobgkbapdmaaDoor.CharB Go.Proofs.YticpobgkbapdmaaDoor.CharC Go.Proofs.YticpobgkbapdmaaDoor.CharD Go.Proofs.YticpobgkbapdmaaDoor.CharE Go.Proofs.YticpobgkbapdmaaDoor.CharH Go.Proofs.YticpobgkbapdmaaDoor.SpanA Go.Proofs.YticpobgkbapdmaaDoor.SpanB Go.Proofs.YticpobgkbapdmaaDoor.SpanC Go.Proofs.YticpobgkbapdmaaDoor.SpanD Go.Proofs.YticpobgkbapdmaaDoor.SpanF Go.Proofs.YticpobgkbapdmaaDoor.EscA Go.Proofs.YticpobgkbapdmaaDoor.EscB Go.Proofs.YticpobgkbapdmaaDoor.EscC Go.Proofs.YticpobgkbapdmaaDoor.EscD Go.Proofs.YticpobgkbapdmaaDoor.EscE Go.Proofs.YticpobgkbapdmaaDoor.EscF Go.Proofs.YticpobgkbapdmaaDoor.EscG Go.Proofs.YticpobgkbapdmaaDoor.EscH Go.Proofs.YticpobgkbapdmaaDoor.PR1
set_option linter.unusedVariables false
set_option linter.unusedSimpArgs false
theorem alloc_at (w : World) (o : Obj) : (w.alloc o).heap[w.heap.size]? = some o := by
  unfold World.alloc
  simp only
  exact Array.getElem?_push_size
theorem rb_new (s : ByteArray) (f : Value) (W : World) : RB W.heap.size s (.pointer none) f [] (W.alloc (Obj.cells #[.string s, .pointer none, .slice none 0 0, f] 82)) :=
  ⟨.slice none 0 0, alloc_at W _, ⟨rfl, .inl ⟨rfl, rfl⟩⟩, fun _ => rfl⟩
def getB (attr : Bool) (s : ByteArray) : List UInt8 × Int := if textB s = true then runL attr s.size s.data.toList [] else ([], 10)
set_option maxHeartbeats 1600000 in
set_option maxRecDepth 100000 in
theorem get_bad (s : ByteArray) (w : World) (hT : Tabs w) (hs : s.size ≤ 1000000000) (ht : textB s = false) :
    Calls Tryd.prog 47 #[.string s] w fun e w' => e = .returned (.tuple #[.string (ba (getB false s).1), .int .i64 (getB false s).2]) ∧ Below w.heap.size w w' := by
  have hX := text_calls s w (by omega) hT
  rw [ht] at hX
  have e : getB false s = ([], 10) := by unfold getB; rw [ht]; rfl
  rw [e]
  clear e ht hT
  go_enter Tryd.func47, Tryd.ntmps47
  go_wp2_with fail
  refine hX.mono ?_
  rintro e w1 ⟨rfl, hb1⟩
  go_wp2_with fail
  go_ret2
  exact ⟨rfl, hb1⟩
set_option maxHeartbeats 1600000 in
set_option maxRecDepth 100000 in
theorem get_good (s : ByteArray) (w : World) (hT : Tabs w) (hM : MaxL w) (hw2 : 2 < w.heap.size) (hs : s.size ≤ 1000000000) (ht : textB s = true) :
    Calls Tryd.prog 47 #[.string s] w fun e w' => e = .returned (.tuple #[.string (ba (getB false s).1), .int .i64 (getB false s).2]) ∧ Below w.heap.size w w' := by
  have hX := text_calls s w (by omega) hT
  rw [ht] at hX
  have e : getB false s = runL false s.size s.data.toList [] := by unfold getB; rw [ht]; rfl
  rw [e]
  clear e ht hT
  go_enter Tryd.func47, Tryd.ntmps47
  go_wp2_with fail
  refine hX.mono ?_
  rintro e w1 ⟨rfl, hb1⟩
  have fz : (w1.alloc (Obj.cells #[.string s, .pointer none, .slice none 0 0, .nilFunc] 82)).frozen? ⟨w1.heap.size, 3, none⟩ = false := Lib.frozen_of_heap (alloc_at w1 _) 3
  have c3 : (w1.alloc (Obj.cells #[.string s, .pointer none, .slice none 0 0, .nilFunc] 82)).cell? ⟨w1.heap.size, 3, none⟩ = some .nilFunc := by rw [cell_h (alloc_at w1 _)]; rfl
  have hst : (store ⟨w1.heap.size, 3, none⟩ (.func (.func 65) #[.pointer (some ⟨w1.heap.size, 0, none⟩)] #[])).run Tryd.prog (w1.alloc (Obj.cells #[.string s, .pointer none, .slice none 0 0, .nilFunc] 82)) = .ok () ((w1.alloc (Obj.cells #[.string s, .pointer none, .slice none 0 0, .nilFunc] 82)).setCell ⟨w1.heap.size, 3, none⟩ (.func (.func 65) #[.pointer (some ⟨w1.heap.size, 0, none⟩)] #[])) := by
    rw [run_store _ _ _ _ _ rfl]
    simp [stored, c3, fz]
  have hsz := hb1.size
  have hB3 := hb1.alloc hb1.size (Obj.cells #[.string s, .pointer none, .slice none 0 0, wayF false w1.heap.size] 82)
  have hR := run_in w1.heap.size s.size s [] (.pointer none) _ (rb_new s (wayF false w1.heap.size) w1) (.inl rfl) (maxL_below hM hB3) (by omega) (Nat.le_refl _) (by simp; omega)
  unfold wayF at hR hB3
  simp only [Bool.false_eq_true, if_false] at hR hB3
  have HB3 := Aside0.mk hB3
  clear hB3 hb1 hM hX
  go_wp2_with fail
  refine hR.mono ?_
  rintro e w2 ⟨rfl, hb2⟩
  go_wp2_with fail
  go_ret2
  exact ⟨rfl, HB3.out.trans (hb2.mono hsz)⟩
theorem get_calls (s : ByteArray) (w : World) (hT : Tabs w) (hM : MaxL w) (hw2 : 2 < w.heap.size) (hs : s.size ≤ 1000000000) :
    Calls Tryd.prog 47 #[.string s] w fun e w' => e = .returned (.tuple #[.string (ba (getB false s).1), .int .i64 (getB false s).2]) ∧ Below w.heap.size w w' := by
  cases ht : textB s with
  | false => exact get_bad s w hT hs ht
  | true => exact get_good s w hT hM hw2 hs ht
end Go.Proofs.YticpobgkbapdmaaDoor.EscI
